/-
  The abstract machine: a deterministic evaluator of the model's code over data, in which a slice that nobody writes is a list. No statement of a seat is proved here.
-/
import Derived.WalkKit
import Derived.RangeFuncIn
import Derived.RangeFuncRecord
import Derived.RangeFuncLeaves
import Derived.OrdersIn
set_option linter.unusedVariables false
set_option linter.unusedSimpArgs false
set_option linter.unusedSectionVars false
set_option linter.unnecessarySimpa false
namespace Go.Ab
set_option linter.defProp false
def aC := @Option.map_eq_some_iff
def cc := @Option.ite_none_right_eq_some
def bL := @List.getElem?_eq_some_iff
def bG := @List.getElem?_eq_getElem
def bR := @Bool.and_eq_true
def dL := @Option.bind_eq_some_iff
def ey := @Array.getElem?_eq_getElem
def da := @List.mem_of_getElem?
def a7 := @Nat.le_refl
def fS := @List.getElem?_append_right
def dz := @Array.getElem?_eq_some_iff
def dY := @List.getElem?_append_left
def bQ := @Option.getD_some
def cz := @Option.some.injEq
def ej := @List.take_of_length_le
def fe := @Option.isSome_iff_exists
def cQ := @Option.bind_some
def dh := @List.all_eq_true
def eV := @Nat.eq_of_beq_eq_true
def dt := @List.mem_flatMap
def cr := @Nat.lt_or_ge
def fV := @Nat.mul_le_mul_right
def dg := @List.mem_cons
def eE := @List.getElem_mem
def gv := @List.mem_cons_of_mem
def dJ := @Nat.le_of_lt
def fU := @List.getElem?_map
def fc := @List.mem_append
def gu := @List.mem_cons_self
def gb := @Bool.not_eq_true'
def il := @List.getElem_of_mem
def gz := @List.flatMap_cons
def iU := @List.length_append
def ik := @List.length_take
def ou := @Array.getElem?_setIfInBounds_ne
def iT := @Nat.lt_succ_self
def iK := @Bool.or_eq_true
def fC := @Nat.add_mul
def gy := @List.mem_map
def rk := @Array.getElem?_setIfInBounds_self_of_lt
def lX := @List.getElem?_eq_none
def kF := @Bool.false_eq_true
def kE := @List.mem_singleton
def lW := @Bool.and_eq_true_iff
def kD := @Classical.not_not
def lV := @Option.bind_eq_bind
def pb := @Array.getD_eq_getD_getElem?
def kC := @List.length_cons
def m0 := @List.mem_of_mem_take
def jQ := @List.mapM_cons
def ot := @List.drop_of_length_le
def lh := @Option.pure_def
def lg := @List.foldl_cons
def lU := @Option.getD_none
def rj := @List.eq_nil_of_length_eq_zero
def nh := @List.getElem?_take
def ng := @Nat.pos_of_ne_zero
def nf := @Bool.not_eq_false'
def kf := @Nat.sub_self
def oq := @Array.length_toList
def lT := @List.mem_range
def oo := @List.getElem?_drop
def pa := @List.mem_of_mem_drop
def mZ := @List.nil_append
def qn := @Array.getElem?_push_lt
def om := @List.append_assoc
def ld := @Nat.le_trans
def nc := @List.nodup_cons
def o9 := @Nat.lt_of_lt_of_le
def lS := @Nat.zero_add
def mY := @Prod.mk.injEq
def qm := @Int.toNat_of_nonneg
def wu := @Array.eq_empty_of_size_eq_zero
def oh := @List.mem_filter
def og := @List.append_nil
def ri := @Array.getElem?_toList
def wq := @List.take_append_of_le_length
def ql := @Array.ext_getElem?
def oe := @Bool.false_and
def tX := @List.length_eq_zero_iff
def o8 := @Nat.min_eq_left
def rh := @List.flatMap_append
def rg := @List.getElem?_range
def tW := @List.getElem?_set_self
def od := @Nat.lt_irrefl
def tV := @List.set_append_right
def oc := @Nat.add_zero
def re := @Nat.lt_trichotomy
def rb := @Nat.lt_succ_of_lt
def o7 := @Sum.inr.injEq
def o6 := @Bool.true_and
def o5 := @List.map_cons
def tU := @List.mem_map_of_mem
def tT := @Nat.eq_zero_or_pos
def tS := @List.set_cons_zero
def wo := @Nat.le_of_ble_eq_true
def wm := @Array.getElem?_modify
def ra := @List.length_nil
def q9 := @List.cons.injEq
def qk := @Sum.inl.injEq
def vd := @List.takeWhile_cons_of_pos
def vc := @List.takeWhile_cons_of_neg
def rH := @List.mem_append_left
def rG := @List.getElem?_set_ne
def rF := @Bool.or_eq_true_iff
def u9 := @List.getElem?_cons_zero
def u7 := @Int.eq_ofNat_of_zero_le
def jB := @Ne.symm
def pT := @List.length_map
def rE := @List.nodup_append
def u6 := @List.length_singleton
def u5 := @List.take_append_drop
def yH := @Option.ite_none_left_eq_some
def u4 := @List.contains_iff_mem
def uZ := @List.length_filter_le
def rD := @Option.bind_none
def pS := @List.all_cons
def yG := @Array.getElem?_append_left
def oN := @Nat.le_succ
def rC := @Option.map_none
def yF := @List.drop_eq_getElem_cons
def yE := @List.mem_or_eq_of_mem_set
def yD := @List.getElem?_take_of_lt
def yC := @Array.getElem?_replicate
def rB := @Bool.and_false
def rA := @Bool.not_false
def yB := @Nat.add_sub_cancel_left
def yA := @List.filter_cons_of_neg
def uY := @List.ext_getElem?
def rz := @Nat.add_assoc
def ry := @Bool.and_true
def ru := @Bool.and_self
def uX := @List.take_length
def uW := @List.any_eq_true
def yz := @Bool.and_eq_false_iff
def uV := @List.map_append
def Cb := @List.eq_nil_iff_forall_not_mem
def yy := @List.replicate_succ
def yx := @List.length_pos_iff
def uU := @List.drop_zero
def rq := @Nat.zero_le
def rn := @Nat.le_zero
def rm := @Nat.sub_mul
def yw := @Nat.lt_or_gt_of_ne
def yv := @Array.foldl_toList
def yu := @List.zip_cons_cons
def uT := @Bool.not_true
def rl := @Array.ext'
def yt := @List.perm_middle
def yr := @Array.toList_inj
def yn := @Nat.min_eq_right
def uS := @List.map_map
def ym := @Option.some.inj
def yl := @List.length_set
structure Ref where
 d:Nat
 t:Nat
 g:Nat
 k:Nat:=0
deriving DecidableEq,Inhabited
inductive AV where
 | v (x:Value)
 | agg (cs:List AV)
 | tup (vs:List AV)
 | cE (esz:Nat) (es:List AV) (cap:Option Nat)
 | aD (r:Ref) (off len:Nat) (cap:Option Nat)
 | dsl (r:Ref) (off len:Nat) (cap:Option Nat)
 | nsl (esz:Nat) (es:List AV) (cap:Option Nat)
 | fsl (esz:Nat) (es:List AV) (cap:Option Nat)
 | ptr (r:Ref) (i j:Nat)
 | iptr (esz:Nat) (es:List AV) (i j:Nat)
 | fn (f:Fn) (first captured:List AV)
 | ifc (t:TypeId) (x:AV)
 | yld (r:Ref)
 | mp (r:Ref)
 | ch (r:Ref)
 | m7 (u:Value)
 | lp (f:FuncId) (nt:Nat) (ps:List Tmp) (assign body:Code) (tm:List AV)
def AV.undef:AV := .v Go.undef
instance:Inhabited AV:=⟨AV.undef⟩
def AV.cells:AV->List AV
 | .agg cs=>cs
 | x=>[x]
def AV.one:AV->Bool
 | .v (.tuple _) | .v (.agg _) | .agg _ | .tup _ | .fsl .. | .nsl .. | .lp .. => false
 | _=>true
structure ax where
 esz:Nat
 es:List AV
 arr:Bool
 cS:Bool
deriving Inhabited
def scalar:Value->Bool
 | .bool _ | .int _ _ | .float _ _ | .complex _ _ _ | .string _=>true
 | .pointer none | .slice none 0 0 | .map none | .chan none | .nilFunc | .nilIface=>true
 | .tuple a=>a.isEmpty
 | _=>false
def fk(x:Value):Option AV:=if scalar x then some (.v x) else none
def ofValue:Value->Option AV
 | .agg cs=>(cs.toList.mapM fk).map .agg
 | .func f first a=>if first.isEmpty&&a.isEmpty then some (.fn f [] []) else none
 | .tuple b=>if b.isEmpty then some (.v (.tuple #[])) else (b.toList.mapM fk).map .tup
 | .iface t x=>(fk x).map (.ifc t)
 | x=>fk x
def HN:AV->Option Value
 | .v x=>some x
 | _=>none
def gT:AV->Option Value
 | .v x=>some x
 | .agg cs=>(cs.mapM HN).map λl => .agg l.toArray
 | _=>none
def cO{b:Type}(P:Program):Sem b->Option b
 | .pure a=>some a
 | .program k=>cO P (k P)
 | .mark _ k=>cO P k
 | _=>none
abbrev aa:=List (Ref × Option ax)
abbrev bD:=Ref->Option ax
def aa.get:aa->Ref->Option ax
 | [],_=>none
 | (r',b) :: h,r=>if r'=r then b else aa.get h r
def aa.gen:aa->Nat->Nat->Nat
 | [],_,_=>0
 | (r',_) :: h,d,t=>if r'.d=d/\r'.t=t then r'.g+1 else aa.gen h d t
def aa.put:aa->Ref->Option ax->aa
 | [],r,b=>[(r,b)]
 | (r',a) :: h,r,b=>if r'=r then (r,b) :: h else (r',a) :: aa.put h r b
def cm:List AV->Nat->AV
 | [],_=>AV.undef
 | x :: _,0=>x
 | _ :: l,n+1=>cm l n
def qH:List AV->Nat->AV->List AV
 | [],0,v=>[v]
 | [],n+1,v=>AV.undef :: qH [] n v
 | _ :: l,0,v=>v :: l
 | x :: l,n+1,v=>x :: qH l n v
structure St where
 tm:List AV
 hp:aa
def ay(P:Program)(t:TypeId):Option Nat:=(P.info? t).map (·.size)
def db(P:Program)(t:TypeId):Option Nat:=(P.info? t).map (·.bytes)
def ep(P:Program)(t:TypeId):Option AV:=((P.info? t).bind (·.zero)).bind ofValue
def fw(P:Program)(t:TypeId):Option Bool:=(P.underlying t).map fun | .struct _ | .array _ _=>true | _=>false
def vn(P:Program)(t:TypeId)(f:Nat):Option (Nat × TypeId):=
 match P.underlying t with
 | some (.struct a)=>(a[f]?).map λx=>(x.offset,x.type)
 | _=>none
def bg(P:Program)(t:TypeId):Option TypeId:=
 match P.underlying t with
 | some (.slice e)=>some e
 | _=>none
def n8(P:Program)(t:TypeId):Option (Nat × TypeId):=
 match P.underlying t with
 | some (.array n e)=>some (n,e)
 | _=>none
def bq(es:List AV)(i j n:Nat)(a:Bool):Option AV:=
 match es[i]? with
 | none=>none
 | some e=>
  if a then (if j+n<=e.cells.length/\0<n then some (.agg ((e.cells.drop j).take n)) else none) else e.cells[j]?
def patch(cs:List AV)(j:Nat)(new:List AV):List AV:=cs.take j++new++cs.drop (j+new.length)
def jC(e:AV)(j:Nat)(new:List AV):Option AV:=
 match e with
 | .agg cs=>if j+new.length<=cs.length then some (.agg (patch cs j new)) else none
 | _=>match j,new with
  | 0,[x]=>some x
  | _,_=>none
def eA(es:List AV)(i j:Nat)(new:List AV):Option (List AV):=
 match es[i]? with
 | none=>none
 | some e=>(jC e j new).map λa=>es.set i a
def view(g:bD):Nat->AV->Option AV
 | 0,_=>none
 | n+1,x=>
  match x with
  | .v x=>some (.v x)
  | .agg cs=>(cs.mapM (view g n)).map .agg
  | .tup cs=>(cs.mapM (view g n)).map .tup
  | .cE esz es cap=>some (.cE esz es cap)
  | .fsl .. => none
  | .iptr esz es i j=>some (.iptr esz es i j)
  | .aD r off len cap=>
   match g r with
   | some b=>if b.arr=true/\off+len<=b.es.length then some (.cE b.esz ((b.es.drop off).take len) cap) else none
   | none=>none
  | .nsl .. => none
  | .dsl r off len cap=>
   match g r with
   | some b=>if b.arr=false/\off+len<=b.es.length then (b.es.mapM (view g n)).map λes => .cE b.esz ((es.drop off).take len) cap else none
   | none=>none
  | .ptr r i j=>
   match g r with
   | some b=>if b.arr then some (.iptr b.esz b.es i j) else (b.es.mapM (view g n)).map λes => .iptr b.esz es i j
   | none=>none
  | .fn f a b=>match a.mapM (view g n),b.mapM (view g n) with
   | some a,some b=>some (.fn f a b)
   | _,_=>none
  | .ifc t x=>(view g n x).map (.ifc t)
  | .yld _ | .mp _ | .ch _ | .m7 _ | .lp .. => none
def ab(g:bD):Nat->AV->List Ref
 | 0,_=>[]
 | n+1,x=>
  match x with
  | .agg cs | .tup cs=>cs.flatMap (ab g n)
  | .aD r _ _ _=>[r]
  | .dsl r _ _ _=>r :: (match g r with | some b=>b.es.flatMap (ab g n) | none=>[])
  | .ptr r _ _=>r :: (match g r with | some b=>if b.arr then [] else b.es.flatMap (ab g n) | none=>[])
  | .fn _ a b=>a.flatMap (ab g n)++b.flatMap (ab g n)
  | .ifc _ x=>ab g n x
  | .mp r=>[r]
  | .ch r=>[r]
  | _=>[]
def flat:Nat->AV->Bool
 | 0,_=>false
 | n+1,x=>
  match x with
  | .v _=>true
  | .agg cs | .tup cs=>cs.all (flat n)
  | .ifc _ x=>flat n x
  | .fn _ a b=>a.all (flat n)&&b.all (flat n)
  | _=>false
def aT(H:aa):List Ref->aa
 | []=>H
 | r :: rs=>match H.get r with
  | some b=>aT (H.put r (some { b with cS:=true})) rs
  | none=>aT H rs
def gM(g:bD)(a:List Ref):Bool:=a.all λr=>match g r with | some b=>b.cS | none=>false
def depth:Nat:=8
def ak(tm:List AV):Operand->Option AV
 | .tmp t=>some (cm tm t)
 | .const v=>ofValue v
 | .func f=>some (.fn (.func f) [] [])
 | .global _=>none
def kT:AV->Option Int
 | .v (.int _ n)=>some n
 | _=>none
def qg:AV->Option Bool
 | .v (.bool b)=>some b
 | _=>none
def aO:Nat:=140737488355328
def aV(g:bD):AV->Option (Nat × List AV)
 | .v (.string s)=>some (1,s.data.toList.map λb => .v (.int .u8 b.toNat))
 | .cE esz es _=>some (esz,es)
 | .aD r off len _=>match g r with
  | some b=>if b.arr=true/\off+len<=b.es.length then some (b.esz,(b.es.drop off).take len) else none
  | none=>none
 | _=>none
def bounds(len:Nat)(cap:Option Nat)(a b c:Option Int):Option (Nat × Nat × Option Nat):=
 match c with
 | some m=>
  match b with
  | some h=>if 0<=a.getD 0/\a.getD 0<=h/\h<=m/\m<=cap.getD len/\h<=len then some ((a.getD 0).toNat,h.toNat,some (m.toNat - (a.getD 0).toNat)) else none
  | none=>none
 | none=>if 0<=a.getD 0/\a.getD 0<=b.getD len/\b.getD len<=len then some ((a.getD 0).toNat,(b.getD len).toNat,cap.map (· - (a.getD 0).toNat)) else none
def fH(tm:List AV):Option Operand->Option (Option Int)
 | none=>some none
 | some o=>match (ak tm o).bind kT with
  | some n=>some (some n)
  | none=>none
def vC(P:Program)(t:TypeId)(cs:List AV)(a:Nat):Option AV:=
 match fw P t,ay P t with
 | some true,some n=>if a+n<=cs.length then some (.agg ((cs.drop a).take n)) else none
 | some false,_=>cs[a]?
 | _,_=>none
def kZ(a:Nat->Option (Nat × Nat))(cells:List AV):List (Nat × AV)->Option (List AV)
 | []=>some cells
 | (i,v) :: rest=>
  match a i with
  | none=>none
  | some (off,size)=>
   if v.cells.length=size/\off+size<=cells.length then kZ a (patch cells off v.cells) rest else none
def bT(P:Program)(t:TypeId)(i:Nat):Option (Nat × Nat):=
 match vn P t i with
 | some (off,a)=>(ay P a).map λn=>(off,n)
 | none=>none
def kO(P:Program)(t:TypeId):Option (List (Nat × Nat)):=
 match P.underlying t with
 | some (.struct a)=>a.toList.mapM λf=>(P.info? f.type).map λi=>(f.offset,i.size)
 | _=>none
def dP(es:List AV):List (Nat × AV)->Option (List AV)
 | []=>some es
 | (i,v) :: rest=>if i<es.length then dP (es.set i v) rest else none
def cX(tm:List AV)(ps:List (Nat × Operand)):Option (List (Nat × AV)):=
 ps.mapM λ(i,o)=>(ak tm o).map λx=>(i,x)
def xe(P:Program)(a:BinOp)(t:TypeId)(c b:Operand)(x y:Value):Option Value:=
 cO P (do eqGuard a t c b x y;binOp a t x y)
def kS:AV->Option Nat
 | .v (.slice none 0 0)=>some 0
 | .cE _ es _=>some es.length
 | .aD _ _ n _=>some n
 | .dsl _ _ n _=>some n
 | _=>none
def vG(f:Value->Value->Sem Value)(P:Program)(args:List AV):Option AV:=
 match args.mapM HN with
 | some (x :: rest)=>(cO P (rest.foldlM f x)).bind fk
 | _=>none
def byteOf:AV->Option UInt8
 | .v (.int .u8 n)=>some (UInt8.ofNat n.toNat)
 | _=>none
abbrev dW:=Option (AV × List ax)
def fa(x:Option AV):dW:=x.map (·,[])
def sn(d:Operand->Option AV)(c a b:Operand):dW:=
 match (d c).bind qg with
 | some true=>fa (d a)
 | some false=>fa (d b)
 | none=>none
def mG(P:Program)(r:Ref)(e:TypeId):dW:=
 match ep P e,ay P e with
 | some z,some n=>if z.cells.length=n/\z.cells.all AV.one/\0<n then some (.ptr r 0 0,[⟨n,[z],false,false⟩]) else none
 | _,_=>none
def tz(P:Program)(r:Ref)(e:TypeId)(x:Option AV):dW:=
 match x,ay P e with
 | some x,some n=>if x.cells.length=n/\x.cells.all AV.one/\0<n then some (.ptr r 0 0,[⟨n,[x],false,false⟩]) else none
 | _,_=>none
def iG(P:Program)(t:TypeId)(a:Option (List (Nat × AV))):dW:=
 match ep P t,a with
 | some (.agg z),some a=>
  match n8 P t with
  | some (_,e)=>match ay P e with
   | some n=>(kZ (λi=>some (i * n,n)) z a).map λcs=>(.agg cs,[])
   | none=>none
  | none=>match kO P t with
   | some ps=>(kZ (ps[·]?) z a).map λcs=>(.agg cs,[])
   | none=>none
 | _,_=>none
def cA(g:bD)(a:List (Nat × AV)):Option (List (Nat × AV)):=a.mapM λ(i,x)=>(view g depth x).map (i,·)
def aP(g:bD)(a:List AV):List Ref:=a.flatMap (ab g depth)
def mkSlice(P:Program)(g:bD)(t:TypeId)(n:Nat)(a:List (Nat × AV)):Option ax:=
 match bg P t with
 | none=>none
 | some e=>match cA g a,ep P e,ay P e with
  | some ws,some z,some s=>
   if 0<s/\n * s<=16777216/\z.cells.length=s/\z.cells.all AV.one/\ws.all (λp=>p.2.cells.length=s&&p.2.cells.all AV.one) then
    (dP (List.replicate n z) ws).map λes=>⟨s,es,true,false⟩
   else none
  | _,_,_=>none
def dA(P:Program)(a:Bool)(g:bD)(r:Ref)(t:TypeId)(n:Nat)(c:Option (List (Nat × AV))):dW:=
 match c with
 | none=>none
 | some c=>if gM g (aP g (c.map (·.2))) then (mkSlice P g t n c).map λb=>(if a then (.cE b.esz b.es (some n),[]) else (.aD r 0 n (some n),[b])) else none
def jU(P:Program)(g:bD)(t:TypeId)(a:Option AV):dW:=
 match a,fw P t,ay P t with
 | some (.ptr r' i j),some c,some n=>match g r' with
  | some b=>fa (bq b.es i j n c)
  | none=>none
 | some (.iptr _ es i j),some c,some n=>fa (bq es i j n c)
 | _,_,_=>none
def EU(x:Option AV):dW:=
 match x with
 | some (.ptr r' i j)=>some (.ptr r' i j,[])
 | some (.iptr n es i j)=>some (.iptr n es i j,[])
 | some (.fn (.func f) a b)=>some (.fn (.func f) a b,[])
 | _=>none
def zk:AV->Bool
 | .cE .. | .aD .. | .dsl .. => true
 | _=>false
def gE:AV->Bool
 | .v (.slice none 0 0)=>true
 | _=>false
def cK(P:Program)(a:BinOp)(t:TypeId)(c b:Operand)(x y:Option AV):dW:=
 match x,y with
 | some x,some y=>
  if zk x&&gE y||zk y&&gE x then
   match P.underlying t,a with
   | some (.slice _),.eql=>some (.v (.bool false),[])
   | some (.slice _),.neq=>some (.v (.bool true),[])
   | _,_=>none
  else
   match gT x,gT y with
   | some x,some y=>fa ((xe P a t c b x y).bind fk)
   | _,_=>none
 | _,_=>none
def ET(P:Program)(a:UnOp)(x:Option AV):dW:=
 fa (((x.bind HN).bind λx=>cO P (Op.unary a x)).bind fk)
def bp(P:Program)(t:TypeId):Bool:=
 match P.underlying t with
 | some (.slice e)=>(match P.underlying e with | some (.int .u8)=>true | _=>false)
 | _=>false
def isStr(P:Program)(t:TypeId):Bool:=match P.underlying t with | some .string=>true | _=>false
def bI(P:Program)(g:bD)(r:Ref)(a c:TypeId)(x:Option AV):dW:=
 match x with
 | some (.v (.slice none 0 0))=>if bp P a&&isStr P c then some (.v (.string .empty),[]) else none
 | some (.v (.string s))=>
  if isStr P a&&isStr P c then some (.v (.string s),[])
  else if isStr P a&&bp P c then
   (if s.size<=aO then some (.aD r 0 s.size none,[⟨1,s.data.toList.map λb => .v (.int .u8 b.toNat),true,false⟩]) else none)
  else none
 | some (.v x)=>fa ((cO P (Go.convert a c x)).bind fk)
 | some x=>if bp P a&&isStr P c then
  match aV g x with
  | some (_,es)=>(es.mapM byteOf).map λl=>(.v (.string ⟨l.toArray⟩),[])
  | none=>none
  else if a == c&&bp P a then
   match x with
   | .aD r' _ _ _=>(match g r' with
    | some b=>if b.esz=1 then some (x,[]) else none
    | none=>none)
   | _=>none
  else none
 | none=>none
def pY(P:Program)(t:TypeId)(x:Option AV):dW:=
 match P.underlying t with
 | some (.interface _)=>none
 | some _=>x.map λx=>(.ifc t x,[])
 | none=>none
def ss(f:Fn)(first c:Option (List AV)):dW:=
 match first,c with
 | some a,some b=>some (.fn f a b,[])
 | _,_=>none
def oz(P:Program)(r:Ref)(t:TypeId)(l c:Option AV):dW:=
 match bg P t,l.bind kT,c.bind kT with
 | some e,some l,some c=>match ep P e,ay P e,db P e with
  | some z,some s,some b=>
   if 0<=l/\l<=c/\c * b<=aO/\c<=9223372036854775807/\0<s/\z.cells.length=s/\z.cells.all AV.one then some (.aD r 0 l.toNat none,[⟨s,List.replicate l.toNat z,true,false⟩]) else none
  | _,_,_=>none
 | _,_,_=>none
def dN(P:Program)(g:bD)(t:TypeId)(x:Option AV)(d a e:Option (Option Int)):dW:=
 match d,a,e with
 | some d,some a,some e=>
  match x with
  | some (.v (.slice none 0 0))=>if ((bg P t).bind (ay P)).isSome then (bounds 0 (some 0) d a e).map λ_=>(.v (.slice none 0 0),[]) else none
  | some (.v (.string s))=>if isStr P t&&e.isNone then (bounds s.size none d a none).map λ(l,h,_)=>(.v (.string (s.extract l h)),[]) else none
  | some (.cE esz es cap)=>if (bg P t).bind (ay P)=some esz then (bounds es.length cap d a e).map λ(l,h,c)=>(.cE esz ((es.drop l).take (h - l)) c,[]) else none
  | some (.aD r' off len cap)=>(match g r' with
   | some b=>if (bg P t).bind (ay P)=some b.esz then (bounds len cap d a e).map λ(l,h,c)=>(.aD r' (off+l) (h - l) c,[]) else none
   | none=>none)
  | some (.dsl r' off len cap)=>(match g r' with
   | some b=>if (bg P t).bind (ay P)=some b.esz then (bounds len cap d a e).map λ(l,h,c)=>(.dsl r' (off+l) (h - l) c,[]) else none
   | none=>none)
  | _=>none
 | _,_,_=>none
def fj(P:Program)(g:bD)(t:TypeId)(x:Option AV)(a c d:Option (Option Int)):dW:=
 match a,c,d,x with
 | some a,some c,some none,some (.aD r' off len cap)=>(match g r' with
  | some b=>if (bg P t).bind (ay P)=some b.esz/\0<=a.getD 0/\a.getD 0<=c.getD len/\c.getD len<=cap.getD len then
   some (.aD r' (off+(a.getD 0).toNat) ((c.getD len).toNat - (a.getD 0).toNat) (cap.map (· - (a.getD 0).toNat)),[]) else none
  | none=>none)
 | _,_,_,_=>none
def uj(P:Program)(g:bD)(t:TypeId)(args:List AV):dW:=
 match args,bg P t with
 | [.aD r _ _ _,.aD r' _ _ _],some e=>(match g r,g r',ay P e with
  | some b,some a,some z=>if r≠r'/\1<b.esz/\b.esz=z/\a.esz=z then some (.v (.bool false),[]) else none
  | _,_,_=>none)
 | _,_=>none
def ur(jt:FuncId->Option TypeId)(a:Bool)(f:Operand):Option TypeId:=match a,f with
 | false,.func b=>jt b
 | _,_=>none
@[simp] theorem mI(jt:FuncId->Option TypeId)(f:Operand):ur jt true f=none:=by cases f<;>rfl
def du(P:Program)(t:TypeId)(x:Option AV)(f:Nat):dW:=
 match bT P t f with
 | some (off,s)=>if 0<s then
  match x with
  | some (.ptr r' i j)=>some (.ptr r' i (j+off),[])
  | some (.iptr n es i j)=>some (.iptr n es i (j+off),[])
  | _=>none
  else none
 | none=>none
def pZ(P:Program)(t:TypeId)(x:Option AV)(f:Nat):dW:=
 match vn P t f,x with
 | some (off,a),some (.agg cs)=>fa (vC P a cs off)
 | _,_=>none
def bj(P:Program)(g:bD)(t:TypeId)(x a:Option AV):dW:=
 match a.bind kT with
 | some k=>
  match bg P t with
  | some e=>match x,ay P e with
   | some (.cE esz es _),some s=>if 0<=k/\k<es.length/\s=esz then some (.iptr esz es k.toNat 0,[]) else none
   | some (.aD r' off len _),some s=>(match g r' with
    | some b=>if 0<=k/\k<len/\s=b.esz then some (.ptr r' (off+k.toNat) 0,[]) else none
    | none=>none)
   | some (.dsl r' off len _),some s=>(match g r' with
    | some b=>if 0<=k/\k<len/\s=b.esz then some (.ptr r' (off+k.toNat) 0,[]) else none
    | none=>none)
   | _,_=>none
  | none=>match n8 P t with
   | some (n,e)=>match x,ay P e with
    | some (.ptr r' i j),some s=>if 0<=k/\k<n then some (.ptr r' i (j+k.toNat * s),[]) else none
    | some (.iptr esz es i j),some s=>if 0<=k/\k<n then some (.iptr esz es i (j+k.toNat * s),[]) else none
    | _,_=>none
   | none=>none
 | none=>none
def oQ(P:Program)(t:TypeId)(x a:Option AV):dW:=
 match a.bind kT,x with
 | some k,some (.agg cs)=>(match n8 P t with
  | some (n,e)=>(match ay P e with
   | some s=>if 0<=k/\k<n then fa (vC P e cs (k.toNat * s)) else none
   | none=>none)
  | none=>none)
 | some k,some (.v (.string s))=>if isStr P t/\0<=k then fa ((s[k.toNat]?).map λb => .v (.int .u8 b.toNat)) else none
 | _,_=>none
def nS(P:Program)(x:Option AV)(a:TypeId)(ok:Bool):dW:=
 match P.underlying a,x with
 | some (.interface _),_=>none
 | some _,some (.ifc t y)=>
  if t=a then some ((if ok then .tup [y,.v (.bool true)] else y),[])
  else if ok then (ep P a).map λz=>(.tup [z,.v (.bool false)],[]) else none
 | some _,some (.v .nilIface)=>if ok then (ep P a).map λz=>(.tup [z,.v (.bool false)],[]) else none
 | _,_=>none
def jV(x:Option AV)(i:Nat):dW:=
 match x with
 | some (.tup a)=>fa (a[i]?)
 | _=>none
def ig(a:List AV):ax:=⟨0,.v (.bool true) :: a,false,false⟩
def gj(g:bD)(r:Ref):Option (List AV):=match g r with
 | some ⟨0,.v (.bool true) :: a,false,_⟩=>some a
 | _=>none
def s4(cap:Nat)(b:Bool)(a:List AV):ax:=⟨0,.v (.bool false) :: .v (.int .i64 cap) :: .v (.bool b) :: a,false,false⟩
def DP(g:bD)(r:Ref):Option (Nat × Bool × List AV):=match g r with
 | some ⟨0,.v (.bool false) :: .v (.int .i64 cap) :: .v (.bool a) :: buf,false,_⟩=>some (cap.toNat,a,buf)
 | _=>none
def wO(P:Program)(t:TypeId):Option TypeId:=match P.underlying t with
 | some (.chan _ e)=>some e
 | _=>none
def yN(P:Program)(t:TypeId):Option (TypeId × TypeId):=match P.underlying t with
 | some (.map k e)=>some (k,e)
 | _=>none
def sW:AV->Option Value
 | .tup [k,_]=>gT k
 | _=>none
def vS:AV->Option AV
 | .tup [_,v]=>some v
 | _=>none
def py(P:Program)(a:Bool)(b:TypeId)(k:Value)(c:List Value):Option (Option Nat):=
 match cO P (Instr.checkKey a 10000 b k) with
 | some _=>(cO P (Instr.findKey b k (c.map λx=>⟨x,Go.undef,0⟩))).map λo=>o.map (·.1)
 | none=>none
def gU(P:Program)(g:bD)(t:TypeId)(x k:Option AV)(ok:Bool):dW:=
 match yN P t,x,k.bind gT with
 | some (e,c),some (.mp r),some d=>(match gj g r with
  | some a=>(match a.mapM sW with
   | some b=>(match py P b.isEmpty e d b with
    | some (some i)=>(a[i]?.bind vS).map λv=>((if ok then .tup [v,.v (.bool true)] else v),[])
    | some none=>(ep P c).map λz=>((if ok then .tup [z,.v (.bool false)] else z),[])
    | none=>none)
   | none=>none)
  | none=>none)
 | _,_,_=>none
def nR(P:Program)(g:bD)(t:Option TypeId)(r:Ref):dW:=
 match t.bind (yN P),gj g r with
 | some _,some a=>some (.v (.int .i64 a.length),[])
 | _,_=>none
def Aa:Value->Value->Bool
 | .bool a,.bool b=>a == b
 | .int k n,.int k' e=>decide (k=k')&&decide (n=e)
 | .string s,.string t=>decide (s=t)
 | .slice none a b,.slice none d c=>Nat.beq a d&&Nat.beq b c
 | .nilFunc,.nilFunc=>true
 | .nilIface,.nilIface=>true
 | _,_=>false
def uR:Nat->AV->AV->Bool
 | 0,_,_=>false
 | n+1,x,y=>
  match x,y with
  | .v u,.v v=>Aa u v
  | .agg cs,.agg ds=>Nat.beq cs.length ds.length&&(cs.zip ds).all λp=>uR n p.1 p.2
  | .cE z es c,.cE a es' c'=>Nat.beq z a&&decide (c=c')&&Nat.beq es.length es'.length&&(es.zip es').all λp=>uR n p.1 p.2
  | _,_=>false
def sg(r r':Ref):Bool:=Nat.beq r.t r'.t&&Nat.beq r.g r'.g&&Nat.beq r.d r'.d&&Nat.beq r.k r'.k
def oG:Nat->AV->AV->Bool
 | 0,_,_=>false
 | n+1,x,y=>
  match x,y with
  | .v u,.v v=>Aa u v
  | .agg cs,.agg ds=>Nat.beq cs.length ds.length&&(cs.zip ds).all λp=>oG n p.1 p.2
  | .tup cs,.tup ds=>Nat.beq cs.length ds.length&&(cs.zip ds).all λp=>oG n p.1 p.2
  | .cE z es c,.cE h es' c'=>Nat.beq z h&&decide (c=c')&&Nat.beq es.length es'.length&&(es.zip es').all λp=>oG n p.1 p.2
  | .aD r a b c,.aD r' e d c'=>sg r r'&&Nat.beq a e&&Nat.beq b d&&decide (c=c')
  | .dsl r a b c,.dsl r' e d c'=>sg r r'&&Nat.beq a e&&Nat.beq b d&&decide (c=c')
  | .ptr r i j,.ptr r' k m=>sg r r'&&Nat.beq i k&&Nat.beq j m
  | .mp r,.mp r'=>sg r r'
  | .ch r,.ch r'=>sg r r'
  | .fn (.func f) a b,.fn (.func g) e d=>Nat.beq f g&&(Nat.beq a.length e.length&&(a.zip e).all λp=>oG n p.1 p.2)&&(Nat.beq b.length d.length&&(b.zip d).all λp=>oG n p.1 p.2)
  | .ifc t x,.ifc t' l=>Nat.beq t t'&&oG n x l
  | _,_=>false
def wb(k k':ax):Bool:=Nat.beq k.esz k'.esz&&k.arr == k'.arr&&k.cS == k'.cS&&Nat.beq k.es.length k'.es.length&&(k.es.zip k'.es).all λp=>oG 8 p.1 p.2
def sQ(H H':aa):Bool:=H.all λp=>match H.get p.1 with
 | none=>true
 | some k=>match H'.get p.1 with
  | none=>false
  | some k'=>wb k k'
def Db(a b:List AV):Bool:=Nat.beq a.length b.length&&(a.zip b).all λp=>uR 8 p.1 p.2
def vH:List (FuncId × List AV × AV)->FuncId->List AV->Option AV
 | [],_,_=>none
 | (g,xs,y) :: T,f,args=>if Nat.beq g f&&Db xs args then some y else vH T f args
def ad(r:Ref):Nat->AV->List ax->AV × List ax
 | 0,x,bs=>(x,bs)
 | n+1,x,bs=>
  match x with
  | .fsl esz es cap=>if esz=0 then (.mp { r with k:=bs.length},bs++[⟨0,es,false,false⟩]) else (.aD { r with k:=bs.length} 0 es.length cap,bs++[⟨esz,es,true,false⟩])
  | .nsl esz es cap=>let (ys,bs):=es.foldl (λ(p:List AV × List ax) c=>let (y,bs):=ad r n c p.2;(p.1++[y],bs)) ([],bs);(.dsl { r with k:=bs.length} 0 es.length cap,bs++[⟨esz,ys,false,false⟩])
  | .agg cs=>let (ys,bs):=cs.foldl (λ(p:List AV × List ax) c=>let (y,bs):=ad r n c p.2;(p.1++[y],bs)) ([],bs);(.agg ys,bs)
  | .tup cs=>let (ys,bs):=cs.foldl (λ(p:List AV × List ax) c=>let (y,bs):=ad r n c p.2;(p.1++[y],bs)) ([],bs);(.tup ys,bs)
  | .ifc t x=>let (y,bs):=ad r n x bs;(.ifc t y,bs)
  | x=>(x,bs)
inductive lb where
 | fn (f:FuncId)
 | yld (r:Ref)
def lK(m:Nat):Bool:=m == 1||m == 3
def pq:Nat->AV->Bool
 | 0,_=>false
 | n+1,x=>
  match x with
  | .v _=>true
  | .agg cs | .tup cs=>cs.all (pq n)
  | .fsl z es _=>z != 0&&es.all (flat depth)
  | .cE _ es _=>es.isEmpty
  | .ifc _ x=>pq n x
  | _=>false
structure yg where
 f:aa->aa->Bool
 ok : ∀H H',f H H'=true ->∀q k,H.get q=some k->H'.get q=some k
def zg:yg:=⟨λ_ _=>false,λ_ _ h=>by cases h⟩
structure Env where
 P:Program
 strict:Oper->Bool
 apart:Array Oper->List (Tmp × Tmp)
 mode:FuncId->Nat
 allowed:FuncId->Bool
 spec:FuncId->List AV->Option AV
 ok:Array Oper->Bool:=λ_=>true
 cS:Oper->Bool:=λ_=>false
 wide:Oper->Bool:=λ_=>false
 jt:FuncId->Option TypeId:=λ_=>none
 thrSpec:FuncId->List AV->aa->Option (AV × aa):=λ_ _ _=>none
 sm:yg:=zg
 deep:Oper->Bool:=λ_=>false
def iq(E:Env)(pc:FuncId->List AV->Option AV)(g:bD)(r:Ref)(f:Option AV)(args:List AV):dW:=
 match f with
 | some (.fn (.func a) first captured)=>
  if E.mode a=2 then none else
  match (first++args++captured).mapM (view g depth) with
  | some xs=>match pc a xs with
   | some y=>if flat depth y||gM g (aP g (first++args++captured))||(E.mode a == 3&&pq depth y) then some (ad r depth y []) else none
   | none=>none
  | none=>none
 | _=>none
def tv(P:Program)(t:Option TypeId)(x:AV):dW:=
 match t with
 | none=>none
 | some t=>match n8 P t with
  | some (n,_)=>some (.v (.int .i64 n),[])
  | none=>if isStr P t then (match x with | .v (.string s)=>some (.v (.int .i64 s.size),[]) | _=>none)
   else if (bg P t).isSome then (kS x).map λn=>(.v (.int .i64 n),[]) else none
def hY(P:Program)(g:bD)(e:TypeId)(x:AV):Option (Nat × List AV):=
 match x with
 | .v (.slice none 0 0)=>(ay P e).map λz=>(z,[])
 | .v (.int _ n)=>match ep P e,ay P e with
  | some w,some z=>if 0<=n/\n<=aO/\w.cells.length=z/\w.cells.all AV.one then some (z,List.replicate n.toNat w) else none
  | _,_=>none
 | x=>aV g x
def isNum:AV->Bool
 | .v (.int _ _)=>true
 | _=>false
def isInt(P:Program)(t:TypeId):Bool:=match P.underlying t with | some (.int _)=>true | _=>false
def ec(P:Program)(g:bD)(r:Ref)(t t':Option TypeId)(s x:AV):dW:=
 match t.bind (bg P) with
 | none=>none
 | some e=>
  if (t'.bind P.underlying).isNone\/(t'.map (isInt P)).getD false≠isNum x then none else
  match ay P e,db P e,ep P e,hY P g e x with
  | some z,some by',some zz,some (a,new)=>
   if a≠z\/z=0\/by'=0\/zz.cells.length≠z then none else
   match s with
   | .v (.slice none 0 0)=>if new=[] then some (s,[]) else if new.length * by'<=aO then some (.aD r 0 new.length none,[⟨z,new,true,false⟩]) else none
   | .cE n es cap=>if n≠z then none else if new=[] then some (s,[]) else
    match cap with
    | some k=>if k<es.length+new.length/\(es.length+new.length) * by'<=aO then some (.aD r 0 (es.length+new.length) none,[⟨z,es++new,true,false⟩]) else none
    | none=>none
   | .aD r' off len cap=>(match g r' with
    | some b=>if b.esz≠z\/b.arr=false then none else if new=[] then some (s,[]) else
     (match cap with
     | some k=>if off+len<=b.es.length/\k<len+new.length/\(len+new.length) * by'<=aO then
      some (.aD r 0 (len+new.length) none,[⟨z,(b.es.drop off).take len++new,true,false⟩]) else none
     | none=>none)
    | none=>none)
   | _=>none
  | _,_,_,_=>none
def EY(P:Program)(t:Option TypeId)(x:AV):dW:=
 match t.bind (bg P),x with
 | some _,.v (.slice none 0 0)=>some (.v (.int .i64 0),[])
 | some _,.cE _ _ (some k)=>some (.v (.int .i64 k),[])
 | some _,.aD _ _ _ (some k)=>some (.v (.int .i64 k),[])
 | _,_=>none
def bS(P:Program)(c:Bool)(g:bD)(r:Ref)(b:Builtin)(a:Array TypeId)(args:List AV):dW:=
 match b,args with
 | .len,[.mp r']=>if c then none else nR P g a[0]? r'
 | .len,[x]=>tv P a[0]? x
 | .min,args=>fa (vG Builtin.min2 P args)
 | .max,args=>fa (vG Builtin.max2 P args)
 | .append,[s,x]=>ec P g r a[0]? a[1]? s x
 | .cap,[x]=>EY P a[0]? x
 | _,_=>none
def zx(b:Bool)(a:List ax):List ax:=if b then a.map (λk => { k with cS:=true}) else a
def bh(E:Env)(pc:FuncId->List AV->Option AV)(d:Bool)(g:bD)(tm:List AV)(r:Ref)(o:Oper):dW:=
 match o.op with
 | .move x | .assign x=>fa (ak tm x)
 | .pick c a b=>sn (ak tm) c a b
 | .alloc e=>mG E.P r e
 | .box e x=>tz E.P r e (ak tm x)
 | .build t ps=>iG E.P t (cX tm ps.toList)
 | .buildSlice t n ps=>dA E.P (d && !E.strict o) g r t n (cX tm ps.toList)
 | .load t a=>jU E.P g t (ak tm a)
 | .nilCheck x=>EU (ak tm x)
 | .binOp op t u m _=>cK E.P op t u m (ak tm u) (ak tm m)
 | .unOp op _ x=>ET E.P op (ak tm x)
 | .convert src dst x=>bI E.P g r src dst (ak tm x)
 | .makeInterface t x=>pY E.P t (ak tm x)
 | .makeFunc f first captured=>ss f (first.toList.mapM (ak tm)) (captured.toList.mapM (ak tm))
 | .makeSlice t l c=>oz E.P r t (ak tm l) (ak tm c)
 | .makeMap _ none=>some (.mp r,[ig []])
 | .lookup t x k ok=>gU E.P g t (ak tm x) (ak tm k) ok
 | .slice t x v q s=>cond (E.wide o && !d) (fj E.P g t (ak tm x) (fH tm v) (fH tm q) (fH tm s)) (dN E.P g t (ak tm x) (fH tm v) (fH tm q) (fH tm s))
 | .fieldAddr t x f=>du E.P t (ak tm x) f
 | .field t x f=>pZ E.P t (ak tm x) f
 | .indexAddr t x j=>bj E.P g t (ak tm x) (ak tm j)
 | .index t x j=>oQ E.P t (ak tm x) (ak tm j)
 | .typeAssert x _ h ok=>nS E.P (ak tm x) h ok
 | .extract x i=>jV (ak tm x) i
 | .call c=>
  match c.args.toList.mapM (ak tm) with
  | none=>none
  | some args=>
   match c.callee with
   | .value f=>(match ur E.jt d f with
    | some t=>uj E.P g t args
    | none=>(iq E pc g r (ak tm f) args).map λp=>(p.1,zx (E.cS o) p.2))
   | .invoke _ _=>none
   | .builtin b=>bS E.P (d&&(E.strict o || !(match c.args.toList with | [.tmp _]=>true | _=>false))) g r b c.argTypes args
 | _=>none
def keyed(r:Ref):Nat->List ax->aa->aa
 | _,[],g=>g
 | k,b :: bs,g=>keyed r (k+1) bs (({ r with k:=k},some b) :: g)
abbrev bk:=Option (AV × aa)
def eB(P:Program)(H:aa)(t:TypeId)(a x:Option AV):bk:=
 match a,x,ay P t with
 | some (.ptr r' i j),some x,some n=>
  match H.get r' with
  | some b=>
   if x.cells.length=n/\x.cells.all AV.one/\b.cS=false then
    (if b.arr=true then
     match view H.get depth x with
     | some y=>if r'∈ab H.get depth x then none else if y.cells.all AV.one=true then (eA b.es i j y.cells).map λes=>(AV.undef,(aT H (ab H.get depth x)).put r' (some { b with es})) else none
     | none=>none
    else (eA b.es i j x.cells).map λes=>(AV.undef,H.put r' (some { b with es})))
   else none
  | none=>none
 | _,_,_=>none
def eF(P:Program)(H:aa)(r:Ref)(t:TypeId)(n:Nat)(a:Option (List (Nat × AV))):bk:=
 match a with
 | none=>none
 | some a=>(mkSlice P H.get t n a).map λb=>(.aD r 0 n (some n),(r,some b) :: aT H (aP H.get (a.map (·.2))))
def ju(E:Env)(pc:FuncId->List AV->Option AV)(tc:lb->List AV->aa->bk)(H:aa)(r:Ref)(f:Option AV)(args:List AV):bk:=
 match f with
 | some (.fn (.func g) first captured)=>
  if E.mode g=2 then tc (.fn g) (first++args++captured) H else
  match (first++args++captured).mapM (view H.get depth) with
  | some xs=>(pc g xs).map λy=>((ad r depth y []).1,keyed r 0 (ad r depth y []).2 (aT H (aP H.get (first++args++captured))))
  | none=>none
 | some (.yld q)=>tc (.yld q) args H
 | _=>none
def kG(b:Bool)(sm:yg)(H:aa)(x:bk):bk:=match b,x with
 | true,some (y,H')=>if flat depth y&&(sQ H H'||sm.f H H') then some (y,H) else none
 | _,x=>x
def fg(P:Program)(H:aa)(t t':Option TypeId)(s x:AV):bk:=
 match t.bind (bg P) with
 | none=>none
 | some e=>
  if (t'.bind P.underlying).isNone\/(t'.map (isInt P)).getD false≠isNum x then none else
  match ay P e,db P e,ep P e,hY P H.get e x with
  | some z,some by',some zz,some (a,new)=>
   if a≠z\/z=0\/by'=0\/new=[]\/zz.cells.length≠z then none else
   match s with
   | .aD r' off len none=>(match H.get r' with
    | some b=>if off=0/\b.arr=true/\b.esz=z/\len=b.es.length/\(len+new.length) * by'<=aO then
     some (.aD ⟨r'.d,r'.t,H.gen r'.d r'.t,0⟩ 0 (len+new.length) none,(⟨r'.d,r'.t,H.gen r'.d r'.t,0⟩,some ⟨z,b.es++new,true,b.cS⟩) :: H.put r' none) else none
    | none=>none)
   | _=>none
  | _,_,_,_=>none
def pd(P:Program)(H:aa)(t:Option TypeId)(a x:AV):bk:=
 match t.bind (bg P) with
 | none=>none
 | some e=>match ay P e with
  | none=>none
  | some z=>match (if gE x then some (z,[]) else aV H.get x) with
   | none=>none
   | some (c,src)=>if c≠z\/z=0 then none else
    match a with
    | .v (.slice none 0 0)=>some (.v (.int .i64 0),H)
    | .aD r' off len _=>(match H.get r' with
     | some b=>
      if b.arr=true/\b.esz=z/\b.cS=false/\off+len<=b.es.length then
       some (.v (.int .i64 (Nat.min src.length len:Nat)),H.put r' (some { b with es:=b.es.take off++src.take (Nat.min src.length len)++b.es.drop (off+Nat.min src.length len)})) else none
     | none=>none)
    | _=>none
def kH(P:Program)(H:aa)(t:Option TypeId)(d x:AV):bk:=
 match (t.bind (bg P)).bind (ay P),d,x with
 | some z,.aD r off len _,.aD r2 a mM _=>(match H.get r,H.get r2 with
  | some b,some c=>
   if b.arr=true/\c.arr=true/\b.esz=z/\c.esz=z/\0<z/\b.cS=false/\off<=b.es.length/\a+Nat.min mM len<=c.es.length then
    some (.v (.int .i64 (Nat.min mM len:Nat)),H.put r (some { b with es:=b.es.take off++(c.es.drop a).take (Nat.min mM len)++b.es.drop (off+Nat.min mM len)})) else none
  | _,_=>none)
 | _,_,_=>none
def dM(P:Program)(H:aa)(t:TypeId)(m k x:Option AV):bk:=
 match yN P t,m,k,x with
 | some (e,_),some (.mp r),some k,some x=>(match gT k,gj H.get r with
  | some c,some a=>(match a.mapM sW with
   | some b=>(match py P false e c b with
    | some (some i)=>if ((b[i]?).map λd=>Instr.sameBits 10000 d c)=some true then some (AV.undef,H.put r (some (ig (a.set i (.tup [k,x]))))) else none
    | some none=>some (AV.undef,H.put r (some (ig (a++[.tup [k,x]]))))
    | none=>none)
   | none=>none)
  | _,_=>none)
 | _,_,_,_=>none
def iL(P:Program)(H:aa)(t:TypeId)(m k:Option AV):bk:=
 match yN P t,m,k with
 | some (f,e),some (.mp r),some k=>(match gT k,gj H.get r with
  | some c,some a=>(match a.mapM sW with
   | some b=>(match py P false f c b with
    | some (some i)=>if ((b[i]?).map λd=>Instr.sameBits 10000 d c)=some true then (a[i]?.bind vS).map λv=>(.tup [v,.v (.int .i64 i)],H.put r (some (ig (a.set i (.tup [k,v]))))) else none
    | some none=>(ep P e).map λz=>(.tup [z,.v (.int .i64 a.length)],H.put r (some (ig (a++[.tup [k,z]]))))
    | none=>none)
   | none=>none)
  | _,_=>none)
 | _,_,_=>none
def ff(H:aa)(m s x:Option AV):bk:=
 match m,s,x with
 | some (.mp r),some (.v (.int _ n)),some x=>(match gj H.get r with
  | some a=>if 0<=n then (match a[n.toNat]? with
   | some (.tup [k,_])=>some (AV.undef,H.put r (some (ig (a.set n.toNat (.tup [k,x])))))
   | _=>none) else none
  | none=>none)
 | _,_,_=>none
def nK(P:Program)(H:aa)(r:Ref)(t:TypeId)(n:Option AV):bk:=
 match n,(wO P t).bind (db P) with
 | some (.v (.int _ n)),some b=>if 0<=n/\n<=1000000/\b<=1000000 then some (.ch r,keyed r 0 [s4 n.toNat false []] H) else none
 | _,_=>none
def rJ(H:aa)(c x:Option AV):bk:=
 match c,x with
 | some (.ch r),some x=>(match DP H.get r with
  | some (cap,false,buf)=>if buf.length<cap/\flat depth x=true then some (AV.undef,H.put r (some (s4 cap false (buf++[x])))) else none
  | _=>none)
 | _,_=>none
def Hm(ok:Bool)(x:AV)(b:Bool):AV:=if ok then .tup [x,.v (.bool b)] else x
def tZ(P:Program)(H:aa)(t:TypeId)(c:Option AV)(ok:Bool):bk:=
 match c,(wO P t).bind (ep P) with
 | some (.ch r),some z=>(match DP H.get r with
  | some (cap,a,x :: buf)=>some (Hm ok x true,H.put r (some (s4 cap a buf)))
  | some (_,true,[])=>some (Hm ok z false,H)
  | _=>none)
 | _,_=>none
def pe(P:Program)(H:aa)(r:Ref)(t:TypeId)(n:Nat)(a:Option (List (Nat × AV))):bk:=
 match a,bg P t with
 | some [(0,.agg cs)],some e=>(match ep P e,ay P e with
  | some z,some s=>if n=1/\0<s/\s<=16777216/\z.cells.length=s/\z.cells.all AV.one=true/\cs.length=s/\cs.all AV.one=true then some (.dsl r 0 1 (some 1),(r,some ⟨s,[.agg cs],false,false⟩) :: H) else none
  | _,_=>none)
 | _,_=>none
def z9(P:Program)(H:aa)(r:Ref)(t t':Option TypeId)(s x:AV):bk:=
 match t.bind (bg P),x with
 | some e,.dsl rx 0 m _=>
  if (t'.bind P.underlying).isNone\/(t'.map (isInt P)).getD false≠false then none else
  (match ay P e,db P e,ep P e,H.get rx with
  | some z,some by',some zz,some a=>
   if a.arr=true\/a.esz≠z\/z=0\/by'=0\/a.es=[]\/zz.cells.length≠z\/m≠a.es.length then none else
   (match s with
   | .v (.slice none 0 0)=>if m * by'<=aO then some (.dsl r 0 m none,(r,some ⟨z,a.es,false,false⟩) :: H.put rx none) else none
   | .dsl r' 0 len none=>(match H.get r' with
    | some b=>if b.arr=false/\b.esz=z/\len=b.es.length/\r'≠rx/\(len+m) * by'<=aO then
     some (.dsl ⟨r'.d,r'.t,H.gen r'.d r'.t,0⟩ 0 (len+m) none,(⟨r'.d,r'.t,H.gen r'.d r'.t,0⟩,some ⟨z,b.es++a.es,false,b.cS⟩) :: (H.put rx none).put r' none) else none
    | none=>none)
   | _=>none)
  | _,_,_,_=>none)
 | _,_=>none
def sX(E:Env)(a:Bool)(H:aa)(tm:List AV)(r:Ref)(o:Oper):Option bk:=
 if a || !E.deep o then none else
 match o.op with
 | .buildSlice t n ps=>some (pe E.P H r t n (cX tm ps.toList))
 | .call c=>(match c.callee with
  | .builtin .append=>some (match c.args.toList.mapM (ak tm) with
   | some [s,x]=>z9 E.P H r c.argTypes[0]? c.argTypes[1]? s x
   | _=>none)
  | _=>none)
 | _=>none
def AI:Op->Bool
 | .send .. | .recv .. => true
 | _=>false
def evalW(E:Env)(pc:FuncId->List AV->Option AV)(tc:lb->List AV->aa->bk)(H:aa)(tm:List AV)(r:Ref)(o:Oper):bk:=
 match o.op with
 | .store t a x=>eB E.P H t (ak tm a) (ak tm x)
 | .mapUpdate t m k x | .insert t m k x=>dM E.P H t (ak tm m) (ak tm k) (ak tm x)
 | .mapEntry t m k=>iL E.P H t (ak tm m) (ak tm k)
 | .entryStore _ m s x=>ff H (ak tm m) (ak tm s) (ak tm x)
 | .buildSlice t n ps=>eF E.P H r t n (cX tm ps.toList)
 | .makeChan t n=>nK E.P H r t (ak tm n)
 | .send c x=>rJ H (ak tm c) (ak tm x)
 | .recv t c ok=>tZ E.P H t (ak tm c) ok
 | .call c=>
  match c.args.toList.mapM (ak tm) with
  | none=>none
  | some args=>
   match c.callee with
   | .value f=>kG (E.cS o) E.sm H (ju E pc tc H r (ak tm f) args)
   | .invoke _ _=>none
   | .builtin b=>
    match b,args with
    | .append,[s,x]=>fg E.P H c.argTypes[0]? c.argTypes[1]? s x
    | .copy,[dst,x]=>cond (E.wide o) (kH E.P H c.argTypes[0]? dst x) (pd E.P H c.argTypes[0]? dst x)
    | _,_=>none
 | _=>none
def wanted(ops:Array Oper)(tm:List AV)(o:Oper):Option Bool:=
 match o.guard with
 | none=>some true
 | some (j,a)=>
  match (ops[j]?).bind (·.dst) with
  | some t=>(match cm tm t with
   | .v (.bool b)=>some (b == a)
   | .v (.tuple c)=>if c.isEmpty then some false else none
   | _=>none)
  | none=>some false
def Gj(E:Env):Op->Bool
 | .store .. | .mapUpdate .. | .insert .. | .mapEntry .. | .entryStore .. => true
 | .call c=>match c.callee with
  | .builtin .append | .builtin .copy=>true
  | .value (.func g)=>E.mode g == 2
  | .value (.tmp _)=>true
  | _=>false
 | _=>false
def n9:Op->Bool
 | .buildSlice .. => true
 | _=>false
def dK(E:Env)(o:Oper):Bool:=(!E.strict o&&Gj E o.op)||(E.cS o&&n9 o.op)
def bl(nt:Nat)(tm:List AV)(a:Option Tmp)(x:AV):Option (List AV):=
 match a with
 | none=>some tm
 | some d=>if d<nt then some (qH tm d x) else none
def evalOp(E:Env)(pc:FuncId->List AV->Option AV)(tc:lb->List AV->aa->bk)(nt dep:Nat)(a:Bool)(ops:Array Oper)(o:Oper)(st:St):Option St:=
 match wanted ops st.tm o with
 | none=>none
 | some false=>(bl nt st.tm o.dst AV.undef).map λtm => { st with tm}
 | some true=>
  match bh E pc a st.hp.get st.tm ⟨dep,o.dst.getD 0,st.hp.gen dep (o.dst.getD 0),0⟩ o with
  | some (x,bs)=>(bl nt st.tm o.dst x).map λtm=>⟨tm,keyed ⟨dep,o.dst.getD 0,st.hp.gen dep (o.dst.getD 0),0⟩ 0 bs st.hp⟩
  | none=>
   if a && !dK E o then none else
   match evalW E pc tc st.hp st.tm ⟨dep,o.dst.getD 0,st.hp.gen dep (o.dst.getD 0),0⟩ o with
   | some (x,H)=>(bl nt st.tm o.dst x).map λtm=>⟨tm,H⟩
   | none=>none
def oF(E:Env)(pc:FuncId->List AV->Option AV)(tc:lb->List AV->aa->bk)(nt dep:Nat)(a:Bool)(ops:Array Oper)(o:Oper)(st:St):Option St:=
 match sX E a st.hp st.tm ⟨dep,o.dst.getD 0,st.hp.gen dep (o.dst.getD 0),0⟩ o with
 | none=>evalOp E pc tc nt dep a ops o st
 | some w=>(match wanted ops st.tm o with
  | none=>none
  | some false=>(bl nt st.tm o.dst AV.undef).map λtm => { st with tm}
  | some true=>(match w with
   | some (x,H)=>(bl nt st.tm o.dst x).map λtm=>⟨tm,H⟩
   | none=>none))
theorem zC{E:Env}{pc:FuncId->List AV->Option AV}{tc:lb->List AV->aa->bk}{nt dep:Nat}{ops:Array Oper}{o:Oper}{st:St}:oF E pc tc nt dep true ops o st=evalOp E pc tc nt dep true ops o st:=rfl
def iW(E:Env)(pc:FuncId->List AV->Option AV)(tc:lb->List AV->aa->bk)(nt dep:Nat)(a:Bool)(ops:Array Oper):List Oper->St->Option St
 | [],st=>some st
 | o :: rest,st=>match oF E pc tc nt dep a ops o st with
  | some st'=>iW E pc tc nt dep a ops rest st'
  | none=>none
def fx(P:Program)(st:St):ResultVar->Option AV
 | .tmp t=>some (cm st.tm t)
 | .cell a t=>match cm st.tm a,fw P t,ay P t with
  | .ptr r i j,some g,some n=>match st.hp.get r with
   | some b=>bq b.es i j n g
   | none=>none
  | _,_,_=>none
def md(P:Program)(fn:Func)(st:St):Option AV:=
 match fn.results.toList.mapM (fx P st) with
 | some []=>some (.v (.tuple #[]))
 | some [x]=>some x
 | some xs=>some (.tup xs)
 | none=>none
def codeOk(ok:Array Oper->Bool):Code->Bool
 | .region _ ops draw => !draw||ok ops
 | .seq a b | .cond _ a b=>codeOk ok a&&codeOk ok b
 | .block _ c | .loop c | .scope c=>codeOk ok c
 | .rangeFunc _ _ a b=>codeOk ok a&&codeOk ok b
 | _=>true
def gH(ok:Array Oper->Bool):Item->Bool
 | .code c | .inLoop c=>codeOk ok c
 | _=>true
def oW(E:Env)(run:Option Ref->Nat->Nat->List Item->St->Option St)(dep:Nat)(f:FuncId)(args:List AV)(H:aa):Option (AV × aa):=
 if E.allowed f then
  match E.P.funcs[f]? with
  | some fn=>match fn.body with
   | some c=>if args.length<=fn.ntmps then
    match run none fn.ntmps dep [.code c] ⟨args,H⟩ with
    | some st=>(md E.P fn st).map (·,st.hp)
    | none=>none
    else none
   | none=>none
  | none=>none
 else none
def aG(g:bD):Nat->AV->Option AV
 | 0,_=>none
 | n+1,x=>
  match x with
  | .agg cs=>(cs.mapM (aG g n)).map .agg
  | .tup cs=>(cs.mapM (aG g n)).map .tup
  | .ifc t x=>(aG g n x).map (.ifc t)
  | .aD r 0 len cap=>
   match g r with
   | some b=>if b.arr=true/\len<=b.es.length then some (if b.cS then .cE b.esz (b.es.take len) cap else .fsl b.esz (b.es.take len) cap) else none
   | none=>none
  | .dsl r 0 len cap=>
   match g r with
   | some b=>if b.arr=false/\len=b.es.length then (if b.cS then (b.es.mapM (view g n)).map λes => .cE b.esz es cap else (b.es.mapM (aG g n)).map λes => .nsl b.esz es cap) else none
   | none=>none
  | .mp r=>
   match gj g r with
   | some a=>if a.all (flat depth) then some (.fsl 0 (.v (.bool true) :: a) none) else none
   | none=>none
  | x=>view g (n+1) x
def bM(E:Env)(run:Option Ref->Nat->Nat->List Item->St->Option St)(f:FuncId)(args:List AV):Option AV:=
 match E.spec f args with
 | some y=>some y
 | none=>match oW E run 0 f args [] with
  | some (x,H)=>if lK (E.mode f)=true then (if (ab H.get depth x).Nodup then aG H.get depth x else none) else view H.get depth x
  | none=>none
def kR(st:Nat)(a:AV):ax:=⟨0,[.v (.int .i64 st),a],false,false⟩
def qM(H:aa)(r:Ref):Option (Nat × AV):=match H.get r with
 | some ⟨0,[.v (.int .i64 st),inf],_,_⟩=>some (st.toNat,inf)
 | _=>none
def r9(tm:List AV):List Tmp->List AV->List AV
 | t :: a,x :: xs=>r9 (qH tm t x) a xs
 | _,_=>tm
def vx(E:Env)(run:Option Ref->Nat->Nat->List Item->St->Option St)(dep:Nat)(r:Ref)(args:List AV)(H:aa):Option (AV × aa):=
 match qM H r with
 | some (0,.lp f nt ps assign body tm)=>
  if args.length=ps.length/\ps.all (· < nt)=true/\codeOk E.ok assign=true/\codeOk E.ok body=true then
   (match run (some r) nt dep [.code assign,.beginRound,.code body] ⟨r9 tm ps args,H⟩ with
   | some st=>(match qM st.hp r with
    | some (0,_)=>some (.v (.bool true),st.hp)
    | some (n+2,_)=>some (.v (.bool false),st.hp)
    | _=>none)
   | none=>none)
  else none
 | _=>none
def cJ(E:Env)(run:Option Ref->Nat->Nat->List Item->St->Option St)(dep:Nat)(t:lb)(args:List AV)(H:aa):Option (AV × aa):=
 match t with
 | .fn f=>(match E.thrSpec f args H with
  | some z=>some z
  | none=>if E.mode f=2 then oW E run (dep+1) f args H else none)
 | .yld r=>vx E run (dep+1) r args H
def mN(rd:Option Ref)(st:St)(n:Nat):Option St:=match rd with
 | none=>if n=2 then some st else none
 | some r=>match qM st.hp r with
  | some (1,inf)=>some { st with hp:=st.hp.put r (some (kR n inf))}
  | _=>none
def ji(E:Env)(ops:Array Oper):List (Tmp × Tmp):=E.apart ops
def fG:AV->Option Ref
 | .ptr r _ _=>some r
 | .aD r _ _ _=>some r
 | .dsl r _ _ _=>some r
 | .mp r=>some r
 | .ch r=>some r
 | _=>none
def qq(tm:List AV)(p:Tmp × Tmp):Bool:=match fG (cm tm p.1),fG (cm tm p.2) with
 | some r,some r'=>decide (r≠r')
 | _,_=>true
def ma(st:St)(o:Oper):Bool:=match o.op with
 | .store _ (.tmp t) _=>(match cm st.tm t with
  | .ptr r _ _=>(match st.hp.get r with
   | some b => !b.arr
   | none=>false)
  | _=>true)
 | _=>true
def Gc:Op->Option Tmp
 | .buildSlice _ _ ps=>(match ps.toList with
  | [(_,.tmp t)]=>some t
  | _=>none)
 | _=>none
def s8(E:Env)(st:St)(o:Oper):Bool := !(E.cS o&&n9 o.op)||(match Gc o.op with
 | some t=>(match cm st.tm t with
  | .aD .. => true
  | .v _=>true
  | _=>false)
 | none=>false)
def jM(E:Env)(ops:Array Oper)(st:St):Bool:=(ji E ops).isEmpty||((ji E ops).all (qq st.tm)&&(ops.toList.all (ma st)&&ops.toList.all (s8 E st)))
def bo(E:Env):Nat->(rd:Option Ref)->(nt dep:Nat)->List Item->St->Option St
 | 0,_,_,_,_,_=>none
 | n+1,rd,nt,dep,items,st=>
  match items with
  | []=>(match rd with
   | none=>some st
   | some _=>mN rd st 0)
  | .beginRound :: k=>(match rd with
   | none=>none
   | some r=>match qM st.hp r with
    | some (0,inf)=>bo E n rd nt dep k { st with hp:=st.hp.put r (some (kR 1 inf))}
    | _=>none)
  | .code c :: k=>
   (match c with
   | .skip | .label _=>bo E n rd nt dep k st
   | .ret=>mN rd st 2
   | .seq a b=>bo E n rd nt dep (.code a :: .code b :: k) st
   | .cond c a b=>
    (match (ak st.tm c).bind qg with
    | some true=>bo E n rd nt dep (.code a :: k) st
    | some false=>bo E n rd nt dep (.code b :: k) st
    | none=>none)
   | .block id b=>bo E n rd nt dep (.code b :: .inBlock id :: k) st
   | .scope b=>bo E n rd nt dep (.code b :: .inScope b :: k) st
   | .loop b=>bo E n rd nt dep (.code b :: .inLoop b :: k) st
   | .exit id=>(match exitTo id k with
    | some k'=>bo E n rd nt dep k' st
    | none=>if rd.isSome then mN rd st (id+3) else none)
   | .region _ ops draw=>(match iW E (bM E (bo E n)) (cJ E (bo E n) dep) nt dep draw ops ops.toList st with
    | some st'=>if draw && !jM E ops st' then none else bo E n rd nt dep k st'
    | none=>none)
   | .rangeFunc g ps assign body=>(match rd,ak st.tm g with
    | none,some (.fn (.func d) first captured)=>
     (match cJ E (bo E n) dep (.fn d) (first++[.yld ⟨dep,nt,st.hp.gen dep nt,0⟩]++captured)
      ((⟨dep,nt,st.hp.gen dep nt,0⟩,some (kR 0 (.lp 0 nt ps.toList assign body st.tm))) :: st.hp) with
     | some (_,H')=>(match qM H' ⟨dep,nt,st.hp.gen dep nt,0⟩ with
      | some (0,_)=>bo E n rd nt dep k ⟨st.tm,H'.put ⟨dep,nt,st.hp.gen dep nt,0⟩ none⟩
      | some (2,_)=>some ⟨st.tm,H'.put ⟨dep,nt,st.hp.gen dep nt,0⟩ none⟩
      | some (id+3,_)=>(match exitTo id k with
       | some k'=>bo E n rd nt dep k' ⟨st.tm,H'.put ⟨dep,nt,st.hp.gen dep nt,0⟩ none⟩
       | none=>none)
      | _=>none)
     | none=>none)
    | _,_=>none)
   | _=>none)
  | .inLoop b :: k=>bo E n rd nt dep (.code b :: .inLoop b :: k) st
  | .inBlock _ :: k | .inScope _ :: k=>bo E n rd nt dep k st
  | _=>none
def cw(o:Oper):List Nat:=(o.after.toList.filter (Region.binds .any)).map (·.on)
def oT(a:List Nat):List Nat->Nat
 | []=>0
 | j :: b=>(2 ^ j ||| a.getD j 0) ||| oT a b
def bF:List Oper->List Nat->List Nat
 | [],acc=>acc
 | o :: os,acc=>bF os (acc++[oT acc (cw o)])
def zj(c:Call):Bool:=match c.args.toList with
 | [.tmp _]=>true
 | _=>false
def eC:Op->Bool
 | .move _ | .assign _ | .pick .. | .binOp .. | .unOp .. | .makeInterface .. | .makeFunc .. | .fieldAddr .. | .field .. | .index .. | .typeAssert .. | .extract .. | .nilCheck _ | .build .. => false
 | .call c=>match c.callee with
  | .builtin .len=>zj c
  | .builtin .min | .builtin .max=>false
  | _=>true
 | _=>true
def xv:Op->Bool
 | .call c=>(match c.callee with
  | .builtin .len=>true
  | _=>false)
 | _=>false
def lP(E:Env)(o:Oper):Bool:=eC o.op && !(E.strict o&&xv o.op)
def dQ(ops:Array Oper)(i:Nat):Option Tmp:=(ops[i]?).bind (·.dst)
def lk(E:Env)(ops:Array Oper)(i:Nat):Bool:=(List.range (i+1)).any λj=>match ops[j]? with
 | some o=>dK E o
 | none=>false
def mv(ops:Array Oper)(A:List Nat)(oi a:Oper)(i j:Nat):Bool:=
 (a.dst.isNone||oi.dst != a.dst) &&
 (match a.dst with | some d => !(oi.looksAt ops).contains d||(A.getD i 0).testBit j | none=>true) &&
 (match oi.dst with | some d => !(a.looksAt ops).contains d||(A.getD i 0).testBit j | none=>true)
def zb(E:Env)(ops:Array Oper)(A:List Nat)(oi a:Oper)(i j:Nat):Bool:=
 mv ops A oi a i j &&
 (!(lP E oi&&lP E a&&lk E ops i)||(A.getD i 0).testBit j)
def pl(E:Env)(ops:Array Oper):Bool:=
 (List.range ops.size).all λi=>match ops[i]? with
  | some oi=>(cw oi).all (· < i)&&(!lP E oi||dK E oi||oi.dst.isSome) &&
   (List.range i).all λj=>match ops[j]? with
    | some a=>zb E ops (bF ops.toList []) oi a i j
    | none=>true
  | none=>true
def oD(P:Program):Op->Option Tmp
 | .load _ (.tmp t)=>some t
 | .indexAddr _ (.tmp t) _=>some t
 | .slice _ (.tmp t) _ _ _=>some t
 | .convert _ dst (.tmp t)=>if bp P dst then none else some t
 | .lookup _ (.tmp t) _ _=>some t
 | .call c=>match c.callee with
  | .builtin .len=>(match c.args.toList with
   | [.tmp t]=>some t
   | _=>none)
  | _=>none
 | _=>none
def storeT:Op->Option Tmp
 | .store _ (.tmp t) _=>some t
 | _=>none
def s9:Op->Option Tmp
 | .call c=>match c.callee with
  | .builtin .append=>(match c.args.toList with
   | .tmp t :: _=>some t
   | _=>none)
  | _=>none
 | _=>none
def Bn:Op->Option Tmp
 | .mapUpdate _ (.tmp t) _ _=>some t
 | .insert _ (.tmp t) _ _=>some t
 | .mapEntry _ (.tmp t) _=>some t
 | .entryStore _ (.tmp t) _ _=>some t
 | _=>none
def rT(o:Op):Option Tmp:=match Bn o with
 | some t=>some t
 | none=>s9 o
def iF(E:Env)(o:Oper):Bool:=E.cS o && !E.strict o&&(match o.op with
 | .call c=>(match c.callee with
  | .value (.func g)=>E.mode g == 2
  | _=>false)
 | _=>false)
def cls(E:Env)(o:Oper):Nat:=
 if lP E o then (if (storeT o.op).isSome then 2 else if (oD E.P o.op).isSome then 1 else if dK E o then 4 else 3) else 0
def fW(E:Env)(o:Oper):Option Tmp:=match storeT o.op with
 | some t=>some t
 | none=>match oD E.P o.op with
  | some t=>some t
  | none=>if n9 o.op then Gc o.op else rT o.op
def settled(E:Env)(ops:Array Oper)(oi c:Oper):Bool:=match fW E oi,fW E c with
 | some a,some b=>(ji E ops).contains (a,b)||(ji E ops).contains (b,a)
 | _,_=>false
def blind(E:Env)(o:Oper):Bool:=cls E o == 3&&(match o.op with
 | .alloc _ | .makeMap _ none=>true
 | .call c=>c.args.toList.isEmpty&&(match c.callee with
  | .value (.func _)=>true
  | _=>false)
 | _=>false)
def zp(E:Env)(o:Oper):Bool:=cls E o == 3&&(match o.op with
 | .alloc _ | .makeMap _ none=>true
 | _=>false)
def gY(E:Env)(oi a:Oper):Bool:=zp E oi&&((s9 a.op).isSome&&a.dst.isSome)
def iM(E:Env)(oi a:Oper):Bool:=(cls E oi == 2&&Nat.ble 3 (cls E a) && !blind E a)||(cls E a == 2&&Nat.ble 3 (cls E oi) && !blind E oi)||(Nat.ble 3 (cls E oi)&&Nat.ble 3 (cls E a)&&(cls E oi == 4||cls E a == 4) && !gY E oi a && !gY E a oi)
def px(b a:Nat):Bool:=(b == 2&&(a == 1||a == 2))||(a == 2&&b == 1)||(b == 1&&a == 4)||(b == 4&&a == 1)
def zi(E:Env)(ops:Array Oper)(A:List Nat)(oi a:Oper)(i j:Nat):Bool:=
 mv ops A oi a i j &&
 (!iM E oi a||(A.getD i 0).testBit j) &&
 (!px (cls E oi) (cls E a)||iF E oi||iF E a||(A.getD i 0).testBit j||settled E ops oi a)
def yT(ops:Array Oper)(i:Nat)(t:Option Tmp):Bool:=match t with
 | some t=>(List.range ops.size).all λk=>dQ ops k != some t||decide (k<i)
 | none=>false
def Ao(E:Env)(ops:Array Oper)(i:Nat)(o:Oper):Bool:=match cls E o with
 | 0=>true
 | 3=>o.dst.isSome
 | _=>iF E o||yT ops i (fW E o)
def Dc(E:Env)(ops:Array Oper):Bool := !(ji E ops).isEmpty &&
 (List.range ops.size).all λi=>match ops[i]? with
  | some oi=>(cw oi).all (· < i)&&Ao E ops i oi &&
   (List.range i).all λj=>match ops[j]? with
    | some a=>zi E ops (bF ops.toList []) oi a i j
    | none=>true
  | none=>true
def nA(E:Env)(ops:Array Oper):Bool:=pl E ops||Dc E ops
theorem gC{d:Type}{P:Program}{s:Sem d} : ∀ {a:d},cO P s=some a ->∀w,s.run P w = .ok a w:=by
 induction s with
 | pure a=>intro b h w;simp[cO]at h;subst h;rfl
 | program k c=>intro a h w;exact c P h w
 | mark m k c=>intro a h w;exact c h w
 | _=>intro a h;simp[cO]at h
theorem cW{i g:Type}{f:i->Option g} : ∀ {l:List i} {c:List g},l.mapM f=some c->c.length=l.length:=by
 intro l
 induction l with
 | nil=>intro c h;simp at h;subst h;rfl
 | cons a l j=>
  intro c h
  simp only[jQ,lh,lV,dL]at h
  obtain⟨b,_,bs,d,e⟩:=h
  simp at e
  subst e
  simp[j d]
theorem gV{k g:Type}{f:k->Option g} : ∀ {l:List k} {d:List g},l.mapM f=some d ->∀(i:Nat)(y:g),d[i]?=some y ->∃x,l[i]?=some x/\f x=some y:=by
 intro l
 induction l with
 | nil=>intro d h i y c;simp at h;subst h;simp at c
 | cons a l n=>
  intro d h i y c
  simp only[jQ,lh,lV,dL]at h
  obtain⟨b,m,bs,e,j⟩:=h
  simp at j
  subst j
  cases i with
  | zero=>simp at c;subst c;exact⟨a,rfl,m⟩
  | succ i=>simp at c;simpa using n e i y c
theorem fl{c e:Type}{f:c->Option e}{l:List c}{b:List e}(h:l.mapM f=some b)(i:Nat)(x:c)(d:l[i]?=some x) : ∃y,b[i]?=some y/\f x=some y:=by
 have k:=cW h
 have g:i<b.length:=by rw[k];exact(bL.1 d).1
 obtain⟨m,a,j⟩:=gV h i b[i] (bG g)
 rw[d]at a
 cases a
 exact⟨_,bG g,j⟩
abbrev Mem:=Nat->Nat->Option Value
structure Loc where
 b:Nat
 esz:Nat
 n:Nat
abbrev Map:=Ref->Option Loc
def bB:Map:=λ_=>none
inductive VR (M:Mem):Map->AV->Value->Prop
 | v {ι x} (h:scalar x=true):VR M ι (.v x) x
 | agg {ι cs vs} (hl:cs.length=vs.size) (h : ∀(i:Nat) c u,cs[i]?=some c->vs[i]?=some u->VR M ι c u):VR M ι (.agg cs) (.agg vs)
 | tup {ι cs vs} (h0:cs≠[]) (hl:cs.length=vs.size) (h : ∀(i:Nat) c u,cs[i]?=some c->vs[i]?=some u->VR M ι c u):VR M ι (.tup cs) (.tuple vs)
 | cE {ι esz es cap a c} (cell:Nat->Nat->Value) (hs:a.spot=none\/es=[]) (hc:es.length<=c) (hk : ∀k,cap=some k->c=k)
  (hm : ∀i j,i<es.length->j<esz->M a.block (a.off+(i * esz+j))=some (cell i j)/\(cell i j).oneCell'=true)
  (he : ∀e∈es,e.cells.length=esz)
  (h : ∀(i j:Nat) e x,es[i]?=some e->e.cells[j]?=some x->VR M bB x (cell i j)):VR M ι (.cE esz es cap) (.slice (some a) es.length c)
 | aD {ι r off len cap l a c} (hr:ι r=some l) (hb:a.block=l.b) (hs:a.spot=none) (ha:c=0\/a.off=off * l.esz) (hc:len<=c) (hn:c=0\/off+c<=l.n)
  (hk : ∀k,cap=some k->c=k) (hz:0<l.esz):VR M ι (.aD r off len cap) (.slice (some a) len c)
 | dsl {ι r off len cap l a c} (hr:ι r=some l) (hb:a.block=l.b) (hs:a.spot=none) (ha:c=0\/a.off=off * l.esz) (hc:len<=c) (hn:c=0\/off+c<=l.n)
  (hk : ∀k,cap=some k->c=k) (hz:0<l.esz):VR M ι (.dsl r off len cap) (.slice (some a) len c)
 | ptr {ι r i j l} (hr:ι r=some l) (hz:0<l.esz):VR M ι (.ptr r i j) (.pointer (some ⟨l.b,i * l.esz+j,none⟩))
 | iptr {ι esz es i j b o} (cell:Nat->Nat->Value)
  (hm : ∀i j,i<es.length->j<esz->M b (o+(i * esz+j))=some (cell i j)/\(cell i j).oneCell'=true)
  (he : ∀e∈es,e.cells.length=esz)
  (h : ∀(i j:Nat) e x,es[i]?=some e->e.cells[j]?=some x->VR M bB x (cell i j)):VR M ι (.iptr esz es i j) (.pointer (some ⟨b,o+(i * esz+j),none⟩))
 | fn {ι f a b a' b'} (ha:a.length=a'.size) (hb:b.length=b'.size) (h : ∀(i:Nat) c u,a[i]?=some c->a'[i]?=some u->VR M ι c u)
  (h' : ∀(i:Nat) c u,b[i]?=some c->b'[i]?=some u->VR M ι c u):VR M ι (.fn f a b) (.func f a' b')
 | ifc {ι t x u} (h:VR M ι x u):VR M ι (.ifc t x) (.iface t u)
 | yld {ι r l} (hr:ι r=some l) (hz:l.esz=0):VR M ι (.yld r) (.func (.yield l.b) #[] #[])
 | mp {ι r l} (hr:ι r=some l) (hz:l.esz=0):VR M ι (.mp r) (.map (some l.b))
 | ch {ι r l} (hr:ι r=some l) (hz:l.esz=0):VR M ι (.ch r) (.chan (some l.b))
 | m7 {ι u} (h:u.oneCell'=true):VR M ι (.m7 u) u
theorem VR.mono{M M':Mem}(C : ∀b o x,M b o=some x->M' b o=some x){ι:Map}{x:AV}{u:Value}(h:VR M ι x u) :
 ∀a:Map,(∀r l,ι r=some l->a r=some l)->VR M' a x u:=by
 induction h with
 | v h=>intro a _;exact .v h
 | agg B _ g=>intro a d;exact .agg B λi c u f q=>g i c u f q a d
 | tup D B _ g=>intro a d;exact .tup D B λi c u f q=>g i c u f q a d
 | cE cell s f w hm he _ g=>
  intro a d
  exact .cE cell s f w (λi j n p=>⟨C _ _ _ (hm i j n p).1,(hm i j n p).2⟩) he λi j e x n p=>g i j e x n p bB (λ_ _ h=>h)
 | aD k t s y f A w m=>intro a d;exact .aD (d _ _ k) t s y f A w m
 | dsl k t s y f A w m=>intro a d;exact .dsl (d _ _ k) t s y f A w m
 | ptr k m=>intro a d;exact .ptr (d _ _ k) m
 | yld k m=>intro a d;exact .yld (d _ _ k) m
 | mp k m=>intro a d;exact .mp (d _ _ k) m
 | ch k m=>intro a d;exact .ch (d _ _ k) m
 | m7 h=>intro a _;exact .m7 h
 | iptr cell hm he _ g=>
  intro a d
  exact .iptr cell (λi j n p=>⟨C _ _ _ (hm i j n p).1,(hm i j n p).2⟩) he λi j e x n p=>g i j e x n p bB (λ_ _ h=>h)
 | fn y t _ _ g z=>intro a d;exact .fn y t (λi c u f q=>g i c u f q a d) λi c u f q=>z i c u f q a d
 | ifc _ g=>intro a d;exact .ifc (g a d)
theorem VR.up{M:Mem}{x:AV}{u:Value}(h:VR M bB x u)(ι:Map):VR M ι x u:=h.mono (λ_ _ _ h=>h) ι (λ_ _ h=>by cases h)
def fq(M:Mem)(ι:Map)(a:List AV)(us:List Value):Prop:=a.length=us.length /\∀(i:Nat) x u,a[i]?=some x->us[i]?=some u->VR M ι x u
theorem fq.nil{M:Mem}{ι:Map}:fq M ι [] []:=⟨rfl,λi x u h=>by simp at h⟩
theorem fq.cons{M:Mem}{ι:Map}{x:AV}{u:Value}{c:List AV}{us:List Value}(h:VR M ι x u)(d:fq M ι c us):fq M ι (x :: c) (u :: us):=
 ⟨by simp[d.1],λi y v a b=>by
  cases i with
  | zero=>simp at a b;subst a;subst b;exact h
  | succ i=>simp at a b;exact d.2 i y v a b⟩
theorem fq.append{M:Mem}{ι:Map}{d f:List AV}{us g:List Value}(h:fq M ι d us)(e:fq M ι f g):fq M ι (d++f) (us++g):=
 ⟨by simp[h.1,e.1],λi y v c a=>by
  rcases cr i d.length with b | b
  ·rw[dY b]at c
   rw[dY (h.1 ▸ b)]at a
   exact h.2 i y v c a
  ·rw[fS b]at c
   rw[fS (h.1 ▸ b)]at a
   rw[<-h.1]at a
   exact e.2 _ y v c a⟩
theorem fq.mono{M M':Mem}{ι a:Map}{d:List AV}{us:List Value}(h:fq M ι d us)(g : ∀b o x,M b o=some x->M' b o=some x)(c : ∀r l,ι r=some l->a r=some l):fq M' a d us:=
 ⟨h.1,λi x u e f=>(h.2 i x u e f).mono g a c⟩
theorem fq.take{M:Mem}{ι:Map}{d:List AV}{us:List Value}(h:fq M ι d us)(n:Nat):fq M ι (d.take n) (us.take n):=
 ⟨by simp[h.1],λi x u a b=>by
  rw[nh]at a b
  split at a
  ·rename_i c;rw[if_pos c]at b;exact h.2 i x u a b
  ·cases a⟩
theorem fq.drop{M:Mem}{ι:Map}{b:List AV}{us:List Value}(h:fq M ι b us)(n:Nat):fq M ι (b.drop n) (us.drop n):=
 ⟨by simp[h.1],λi x u c a=>by
  rw[oo]at c a
  exact h.2 _ x u c a⟩
theorem VR.iE{M:Mem}{ι:Map}{cs:List AV}{b:Array Value}:VR M ι (.agg cs) (.agg b)↔fq M ι cs b.toList:=
 ⟨λh=>by cases h with | agg f h=>exact⟨by simpa using f,λi x u d a=>h i x u d (by simpa using a)⟩,
  λh => .agg (by simpa using h.1) λi c u e a=>h.2 i c u e (by simpa using a)⟩
theorem VR.cells{M:Mem}{ι:Map}{x:AV}{u:Value}(h:VR M ι x u):fq M ι x.cells u.cells.toList:=by
 have one : ∀ {x:AV} {u:Value},VR M ι x u->x.cells=[x]->u.cells = #[u]->fq M ι x.cells u.cells.toList:=by
  intro x u h j m
  rw[j,m]
  exact fq.cons h fq.nil
 cases h with
 | agg l h=>exact⟨by simpa [AV.cells,Value.cells] using l,λi x u j m=>h i x u (by simpa [AV.cells] using j) (by simpa [Value.cells] using m)⟩
 | v h=>
  refine one (.v h) rfl ?_
  cases u<;>first | rfl | (simp[scalar]at h)
 | tup n l h=>exact one (.tup n l h) rfl rfl
 | cE cell c e f hm he h=>exact one (.cE cell c e f hm he h) rfl rfl
 | aD a d c g e k f b=>exact one (.aD a d c g e k f b) rfl rfl
 | dsl a d c g e k f b=>exact one (.dsl a d c g e k f b) rfl rfl
 | ptr a b=>exact one (.ptr a b) rfl rfl
 | yld a b=>exact one (.yld a b) rfl rfl
 | mp a b=>exact one (.mp a b) rfl rfl
 | ch a b=>exact one (.ch a b) rfl rfl
 | m7 h=>exact one (.m7 h) rfl (by cases u<;>first | rfl | (cases h))
 | iptr cell hm he h=>exact one (.iptr cell hm he h) rfl rfl
 | fn g d h o=>exact one (.fn g d h o) rfl rfl
 | ifc h=>exact one (.ifc h) rfl rfl
theorem VR.one{M:Mem}{ι:Map}{x:AV}{u:Value}(h:VR M ι x u)(a:x.one=true):u.oneCell'=true:=by
 cases h with
 | v h=>cases u<;>first | rfl | (simp[AV.one]at a)
 | agg b h=>simp[AV.one]at a
 | tup c b h=>simp[AV.one]at a
 | cE=>rfl
 | aD=>rfl
 | dsl=>rfl
 | ptr=>rfl
 | iptr=>rfl
 | fn=>rfl
 | ifc=>rfl
 | yld=>rfl
 | mp=>rfl
 | ch=>rfl
 | m7 h=>exact h
theorem gD{M:Mem}{ι:Map}{u:Value}{x:AV}(h:fk u=some x):VR M ι x u:=by
 unfold fk at h
 split at h
 ·cases h;exact .v (by assumption)
 ·cases h
theorem pr{M:Mem}{ι:Map}{us:List Value}{b:List AV}(h:us.mapM fk=some b):fq M ι b us:=
 ⟨cW h,λi x u d c=>by
  obtain⟨f,a,e⟩:=gV h i x d
  rw[c]at a;cases a
  exact gD e⟩
theorem dO{M:Mem}{ι:Map}{u:Value}{x:AV}(h:ofValue u=some x):VR M ι x u:=by
 cases u with
 | agg cs=>
  simp only[ofValue,aC]at h
  obtain⟨xs,d,rfl⟩:=h
  exact VR.iE.2 (pr d)
 | func f a b=>
  simp only[ofValue]at h
  split at h
  ·rename_i j
   cases h
   simp at j
   obtain⟨rfl,rfl⟩:=j
   exact .fn rfl rfl (λi c u g=>by simp at g) (λi c u g=>by simp at g)
  ·cases h
 | tuple o=>
  simp only[ofValue]at h
  split at h
  ·rename_i k
   simp at k
   subst k
   cases h
   exact .v rfl
  ·rename_i k
   simp only[aC]at h
   obtain⟨xs,d,rfl⟩:=h
   have l:=pr (M:=M) (ι:=ι) d
   refine .tup ?_ (by simpa using l.1) λi c u g n=>l.2 i c u g (by simpa using n)
   intro e
   subst e
   have:=l.1
   simp at this
   exact k (by simpa using wu this.symm)
 | iface t x=>
  simp only[ofValue,aC]at h
  obtain⟨y,m,rfl⟩:=h
  exact .ifc (gD m)
 | _=>exact gD (by simpa [ofValue] using h)
theorem yM{M:Mem}{ι:Map}{x:AV}{u v:Value}(h:VR M ι x u)(a:HN x=some v):u=v:=by
 cases h<;>simp[HN]at a
 exact a
theorem kL{M:Mem}{ι:Map}{x:AV}{u v:Value}(h:VR M ι x u)(f:gT x=some v):u=v:=by
 cases h<;>simp[gT]at f
 ·exact f
 ·rename_i cs g n j
  obtain⟨l,a,rfl⟩:=f
  congr 1
  apply ql
  intro i
  rcases cr i g.size with e | e
  ·have d:=cW a
   have b:i<l.length:=by omega
   obtain⟨c,m,k⟩:=gV a i l[i] (bG b)
   have:=yM (j i c g[i] m (ey e)) k
   simp[this,ey e,bG b]
  ·have d:=cW a
   rw[Array.getElem?_eq_none e]
   simp
   omega
def ax.map(k:ax)(ι:Map):Map:=if k.arr then bB else ι
def oZ(z a:Nat)(fz:Nat × Nat):Prop:=(∀o,o<a ->¬(fz.1<=o/\(o<fz.2\/fz.2<fz.1)))/\(1<z ->¬(fz.1<=a/\a<fz.2))
theorem oZ.zero(z n:Nat):oZ z n (0,0):=⟨λo _ h=>by simp at h,λ_ h=>by simp at h⟩
structure cy (M:Mem) (ι:Map) (w:World) (l:Loc) (k:ax):Prop where
 esz:l.esz=k.esz
 heap : ∃arr T fz,w.heap[l.b]?=some (.cells arr T fz)/\arr.size=l.n * k.esz/\oZ k.esz arr.size fz /\
  ∀(i j:Nat) e x,k.es[i]?=some e->e.cells[j]?=some x ->∃u,arr[i * k.esz+j]?=some u/\u.oneCell'=true/\VR M (k.map ι) x u
 len:k.es.length<=l.n
 cells : ∀e∈k.es,e.cells.length=k.esz
 frozen : ∀o x,M l.b o=some x->k.cS=true/\o<k.es.length * k.esz
def ph(n:Nat)(r:Loop):Prop:=match n with
 | 0=>r.state = .ready/\r.pending=none
 | 1=>r.state = .busy
 | 2=>r.state = .done/\r.pending=some .ret
 | id+3=>r.state = .done/\r.pending=some (.exit id)
def tf(M:Mem)(ι:Map)(w:World)(l:Loc)(k:ax):Prop:=
 ∃(n nt:Nat) (ps:List Tmp) (assign body:Code) (tm:List AV) (r:Loop),k.esz=0/\k.arr=false/\k.es=[.v (.int .i64 n),.lp 0 nt ps assign body tm]/\w.heap[l.b]?=some (.loop r)/\r.params=ps.toArray/\r.assign=assign/\r.body=body /\
  r.tmps.size=nt/\(∀t,VR M ι (cm tm t) (r.tmps.getD t undef))/\ph n r
def yi(M:Mem)(ι:Map)(w:World)(l:Loc)(k:ax):Prop:=
 ∃(c:List AV) (a:Array MapEntry),k.esz=0/\k.arr=false/\k.es = .v (.bool true) :: c/\w.heap[l.b]?=some (.map a a.size)/\a.size=c.length /\
  ∀(i:Nat) ent e,c[i]?=some ent->a[i]?=some e ->∃f d,ent = .tup [f,d]/\gT f=some e.key/\VR M ι d e.val/\e.born=i
def ti(M:Mem)(ι:Map)(w:World)(l:Loc)(k:ax):Prop:=
 ∃(cap s r:Nat) (c:Bool) (a:List AV) (arr:Array Value),k.esz=0/\k.arr=false/\k.es = .v (.bool false) :: .v (.int .i64 cap) :: .v (.bool c) :: a/\w.heap[l.b]?=some (.chan cap arr c s r false) /\
  arr.size=a.length /\∀(i:Nat) x u,a[i]?=some x->arr[i]?=some u->VR M ι x u
def gw(M:Mem)(ι:Map)(w:World)(l:Loc)(k:ax):Prop:=tf M ι w l k\/yi M ι w l k\/ti M ι w l k
structure ib (M:Mem) (ι:Map) (w:World) (l:Loc) (k:ax):Prop where
 esz:l.esz=k.esz
 cellsOk:0<k.esz->cy M ι w l k
 objOk:k.esz=0->gw M ι w l k
 frozen : ∀o x,M l.b o=some x->k.cS=true/\o<k.es.length * k.esz
theorem cy.BM{M:Mem}{ι:Map}{w:World}{l:Loc}{k:ax}(h:cy M ι w l k)(a:0<k.esz):ib M ι w l k:=⟨h.esz,λ_=>h,λe=>by omega,h.frozen⟩
theorem gw.zero{M:Mem}{ι:Map}{w:World}{l:Loc}{k:ax}(h:gw M ι w l k):k.esz=0/\k.arr=false:=by
 rcases h with ⟨n,nt,ps,as,d,tm,r,a,b,_⟩ | ⟨c,entries,a,b,_⟩ | ⟨_,_,_,_,_,_,a,b,_⟩
 ·exact⟨a,b⟩
 ·exact⟨a,b⟩
 ·exact⟨a,b⟩
theorem gw.obj{M:Mem}{ι:Map}{w:World}{l:Loc}{k:ax}(h:gw M ι w l k):(∃r,w.heap[l.b]?=some (.loop r))\/(∃es c,w.heap[l.b]?=some (.map es c)) \/∃a b c d e f,w.heap[l.b]?=some (.chan a b c d e f):=by
 rcases h with ⟨n,nt,ps,as,i,tm,r,_,_,_,h,_⟩ | ⟨g,entries,_,_,_,h,_⟩ | ⟨_,_,_,_,_,_,_,_,_,h,_⟩
 ·exact .inl ⟨_,h⟩
 ·exact .inr (.inl ⟨_,_,h⟩)
 ·exact .inr (.inr ⟨_,_,_,_,_,_,h⟩)
theorem gw.same{M:Mem}{ι:Map}{w:World}{l:Loc}{k k':ax}(h:gw M ι w l k)(g:k'.esz=k.esz)(i:k'.arr=k.arr)(j:k'.es=k.es):gw M ι w l k':=by
 rcases h with ⟨n,nt,ps,as,m,tm,r,d,b,e,a⟩ | ⟨f,entries,d,b,e,a⟩ | ⟨c,s,r,o,buf,arr,d,b,e,a⟩
 ·exact .inl ⟨n,nt,ps,as,m,tm,r,g.trans d,i.trans b,j.trans e,a⟩
 ·exact .inr (.inl ⟨f,entries,g.trans d,i.trans b,j.trans e,a⟩)
 ·exact .inr (.inr ⟨c,s,r,o,buf,arr,g.trans d,i.trans b,j.trans e,a⟩)
theorem gw.BM{M:Mem}{ι:Map}{w:World}{l:Loc}{k:ax}(h:gw M ι w l k)(d:l.esz=0)(c : ∀o x,M l.b o=some x->False):ib M ι w l k:=
 ⟨by rw[d,h.zero.1],λe=>by have:=h.zero.1;omega,λ_=>h,λo x a=>(c o x a).elim⟩
theorem ib.pos{M:Mem}{ι:Map}{w:World}{l:Loc}{k:ax}(h:ib M ι w l k)(a:k.arr=true):0<k.esz:=by
 rcases tT k.esz with e | e
 ·have:=(h.objOk e).zero.2;rw[a]at this;cases this
 ·exact e
structure cT (M:Mem) (ι:Map) (g:bD) (w:World):Prop where
 mem : ∀b o x,M b o=some x->w.cell? ⟨b,o,none⟩=some x
 live : ∀r k,g r=some k ->∃l,ι r=some l/\ib M ι w l k
 inj : ∀r r' k k' l l',g r=some k->g r'=some k'->ι r=some l->ι r'=some l'->l.b=l'.b->r=r'
theorem cT.at{M:Mem}{ι:Map}{g:bD}{w:World}(d:cT M ι g w){r:Ref}{b:ax}{l:Loc}(f:ι r=some l)(i:0<l.esz)(e:g r=some b):cy M ι w l b:=by
 obtain⟨h,a,c⟩:=d.live r b e
 rw[f]at a;cases a
 exact c.cellsOk (by have:=c.esz;omega)
theorem gw.mono{M M':Mem}{ι d:Map}{w w':World}{l:Loc}{k:ax}(h:gw M ι w l k)(C : ∀b o x,M b o=some x->M' b o=some x)(f : ∀r l,ι r=some l->d r=some l)(A:w'.heap[l.b]?=w.heap[l.b]?):gw M' d w' l k:=by
 rcases h with ⟨n,nt,ps,as,E,tm,r,g,z,m,p,q,y,j,N,I,J⟩ | ⟨v,entries,g,m,p,q,y,j⟩ | ⟨c,s,r,H,buf,arr,g,m,p,q,y,j⟩
 ·exact .inl ⟨n,nt,ps,as,E,tm,r,g,z,m,by rw[A];exact p,q,y,j,N,λt=>(I t).mono C d f,J⟩
 ·exact .inr (.inl ⟨v,entries,g,m,p,by rw[A];exact q,y,λi B e a b=>by obtain⟨G,L,F,K,D⟩:=j i B e a b;exact⟨G,L,F,K,D.1.mono C d f,D.2⟩⟩)
 ·exact .inr (.inr ⟨c,s,r,H,buf,arr,g,m,p,by rw[A];exact q,y,λi x u a b=>(j i x u a b).mono C d f⟩)
structure kb (M:Mem) (ι:Map) (g:bD) (w:World) (M':Mem) (ι':Map) (g':bD) (w':World):Prop where
 os:w'.os=w.os
 tape:w'.tape=w.tape
 output:w'.output=w.output
 size:w.heap.size<=w'.heap.size
 chg : ∀b,b<w.heap.size->(∀r k l,g r=some k->ι r=some l->l.b≠b)->w'.heap[b]?=w.heap[b]?
 mem : ∀b o x,M b o=some x->M' b o=some x
 map : ∀r l,ι r=some l->ι' r=some l
 live : ∀r k l,g' r=some k->ι' r=some l->w.heap.size<=l.b \/∃r0 k0 l0,g r0=some k0/\ι r0=some l0/\l0.b=l.b
 new : ∀b o x,M' b o=some x->M b o=some x\/w.heap.size<=b \/∃r0 k0 l0,g r0=some k0/\ι r0=some l0/\l0.b=b
theorem kb.refl{M:Mem}{ι:Map}{g:bD}{w:World}:kb M ι g w M ι g w:=
 ⟨rfl,rfl,rfl,a7 _,λ_ _ _=>rfl,λ_ _ _ h=>h,λ_ _ h=>h,λr k l h a => .inr ⟨r,k,l,h,a,rfl⟩,λ_ _ _ h => .inl h⟩
theorem kb.trans{M ι g w M' ι' g' w' M'' ι'' g'' w''}(h:kb M ι g w M' ι' g' w')(c:kb M' ι' g' w' M'' ι'' g'' w''):kb M ι g w M'' ι'' g'' w'':=by
 have f : ∀b,b<w.heap.size->(∀r k l,g r=some k->ι r=some l->l.b≠b) ->∀r k l,g' r=some k->ι' r=some l->l.b≠b:=by
  intro b t d r k l u p e
  rcases h.live r k l u p with a | ⟨q,m,s,a,n,i⟩
  ·omega
  ·exact d q m s a n (i.trans e)
 refine⟨c.os.trans h.os,c.tape.trans h.tape,c.output.trans h.output,ld h.size c.size,?_,λb o x v=>c.mem b o x (h.mem b o x v),
  λr l p=>c.map r l (h.map r l p),?_,?_⟩
 ·intro b t d
  rw[c.chg b (o9 t h.size) (f b t d),h.chg b t d]
 ·intro r k l u p
  rcases c.live r k l u p with a | ⟨q,m,s,a,n,i⟩
  ·exact .inl (ld h.size a)
  ·rcases h.live q m s a n with j | ⟨r1,k1,z,j,y,A⟩
   ·exact .inl (i ▸ j)
   ·exact .inr ⟨r1,k1,z,j,y,A.trans i⟩
 ·intro b o x v
  rcases c.new b o x v with a | a | ⟨q,m,s,a,n,i⟩
  ·exact h.new b o x a
  ·exact .inr (.inl (ld h.size a))
  ·rcases h.live q m s a n with j | ⟨r1,k1,z,j,y,A⟩
   ·exact .inr (.inl (i ▸ j))
   ·exact .inr (.inr ⟨r1,k1,z,j,y,A.trans i⟩)
theorem dU{w:World}{b o:Nat}{arr:Array Value}{T:TypeId}{fz:Nat × Nat}(h:w.heap[b]?=some (.cells arr T fz)):w.cell? ⟨b,o,none⟩=arr[o]?:=by
 simp[World.cell?,h]
theorem cY(b o n:Nat):(⟨b,o,none⟩:Addr).add n=⟨b,o+n,none⟩:=by
 unfold Addr.add;split<;>simp_all
theorem eu{a:Addr}(h:a.spot=none):a=⟨a.block,a.off,none⟩:=by cases a;simp_all
theorem kK{P:Program}{t:TypeId}{n:Nat}(h:ay P t=some n) : ∃i,P.info? t=some i/\i.size=n:=by
 simpa [ay] using h
theorem aX{P:Program}{t:TypeId}{n:Nat}(h:ay P t=some n)(w:World):(sizeOf t).run P w = .ok n w:=by
 obtain⟨i,a,rfl⟩:=kK h
 simp[sizeOf,typeInfo,a]
theorem az{P:Program}{t:TypeId}{d:TypeDesc}(h:P.underlying t=some d)(w:World):(underlying t).run P w = .ok d w:=by
 simp[underlying,h]
theorem nP{P:Program}{t:TypeId}{b:Bool}(h:fw P t=some b)(w:World):(isAgg t).run P w = .ok b w:=by
 simp only[fw,aC]at h
 obtain⟨d,a,rfl⟩:=h
 simp only[isAgg,Sem.run_bind,az a,Result.andThen_ok]
 cases d<;>rfl
theorem mc{P:Program}{t:TypeId}{z:AV}(h:ep P t=some z)(w:World) : ∃u,(zeroValue t).run P w = .ok u w/\ofValue u=some z:=by
 simp only[ep,dL]at h
 obtain⟨u,⟨i,c,a⟩,b⟩:=h
 exact⟨u,by simp[zeroValue,typeInfo,c,a],b⟩
def oL(M:Mem)(ι:Map)(w:World)(b o:Nat)(a:List AV):Prop:=
 ∀(j:Nat) x,a[j]?=some x ->∃u,w.cell? ⟨b,o+j,none⟩=some u/\u.oneCell'=true/\VR M ι x u
theorem oL.values{M ι w b o}{a:List AV}(h:oL M ι w b o a) : ∃us:List Value,fq M ι a us/\(∀u∈us,u.oneCell'=true) /\∀(j:Nat) u,us[j]?=some u->w.cell? ⟨b,o+j,none⟩=some u:=by
 induction a generalizing o with
 | nil=>exact⟨[],fq.nil,by simp,by simp⟩
 | cons x a k=>
  obtain⟨u,g,e,i⟩:=h 0 x rfl
  obtain⟨us,f,l,m⟩:=k (o:=o+1) λj y d=>by
   have:=h (j+1) y (by simpa using d)
   rwa [show o+(j+1)=o+1+j by omega]at this
  refine⟨u :: us,fq.cons i f,by simpa [e] using l,?_⟩
  intro j v c
  cases j with
  | zero=>simp at c;subst c;exact g
  | succ j=>
   simp at c
   have:=m j v c
   rwa [show o+(j+1)=o+1+j by omega]
theorem oL.sub{M ι w b o}{c:List AV}(h:oL M ι w b o c)(j n:Nat):oL M ι w b (o+j) ((c.drop j).take n):=by
 intro i x a
 rw[nh]at a
 split at a
 ·rw[oo]at a
  obtain⟨u,e,d⟩:=h _ x a
  exact⟨u,by rwa [show o+j+i=o+(j+i) by omega],d⟩
 ·cases a
theorem lv{P:Program}{t:TypeId}{f:Bool}{n:Nat}(g:fw P t=some f)(l:ay P t=some n){M ι w b o}{cs:List AV}{j:Nat}{y:AV}
 (h:oL M ι w b o cs)
 (e:(if f then (if j+n<=cs.length/\0<n then some (AV.agg ((cs.drop j).take n)) else none) else cs[j]?)=some y) :
 ∃u,(loadVar t ⟨b,o+j,none⟩).run P w = .ok u w/\VR M ι y u:=by
 cases f with
 | false=>
  simp at e
  obtain⟨u,p,_,m⟩:=h j y e
  exact⟨u,by simp[loadVar,nP g,p],m⟩
 | true=>
  simp at e
  obtain⟨⟨s,x⟩,rfl⟩:=e
  obtain⟨us,c,_,a⟩:=(h.sub j n).values
  have d:us.length=n:=by rw[<-c.1];simp;omega
  refine⟨.agg us.toArray,?_,VR.iE.2 (by simpa using c)⟩
  have i:=run_loadCells_list (P:=P) w ⟨b,o+j,none⟩ us (λk v q=>by rw[cY];exact a k v q)
  rw[d]at i
  simp[loadVar,nP g,aX l,i]
theorem cy.cell{M ι w l k}(h:cy M ι w l k)(i:Nat){e:AV}(d:k.es[i]?=some e):oL M (k.map ι) w l.b (i * k.esz) e.cells:=by
 obtain⟨arr,T,fz,f,_,_,m⟩:=h.heap
 intro j x a
 obtain⟨u,n,c,g⟩:=m i j e x d a
 exact⟨u,by rw[dU f];exact n,c,g⟩
theorem ax.map_le(k:ax)(ι:Map) : ∀r l,k.map ι r=some l->ι r=some l:=by
 intro r l h
 unfold ax.map at h
 split at h
 ·cases h
 ·exact h
theorem Ap{P:Program}{t:TypeId}{f:Bool}{n:Nat}(l:fw P t=some f)(q:ay P t=some n){M ι g w}(m:cT M ι g w)
 {r:Ref} {i j:Nat} {k:ax} {y:AV} {a:Value} (z:VR M ι (.ptr r i j) a) (x:g r=some k) (b:bq k.es i j n f=some y) :
 ∃u,(Instr.loadAt t a).run P w = .ok u w/\VR M ι y u:=by
 cases z with | ptr v s=>
 have d:=m.at v s x
 unfold bq at b
 split at b
 ·cases b
 ·rename_i e o
  obtain⟨u,c,p⟩:=lv l q (d.cell i o) b
  refine⟨u,?_,p.mono (λ_ _ _ h=>h) ι (k.map_le ι)⟩
  rw[<-d.esz]at c
  simp[Instr.loadAt,Instr.sureAddr,c]
theorem oL.GY{M:Mem}{w:World}(k : ∀b o x,M b o=some x->w.cell? ⟨b,o,none⟩=some x){esz b o i:Nat}{es:List AV}{cell:Nat->Nat->Value}
 (f : ∀i j,i<es.length->j<esz->M b (o+(i * esz+j))=some (cell i j)/\(cell i j).oneCell'=true)
 (l : ∀e∈es,e.cells.length=esz) (h : ∀(i j:Nat) e x,es[i]?=some e->e.cells[j]?=some x->VR M bB x (cell i j)) {e:AV} (c:es[i]?=some e):oL M bB w b (o+i * esz) e.cells:=by
 intro j x d
 have g:j<esz:=by
  rw[<-l e (da c)]
  exact(bL.1 d).1
 have a:i<es.length:=(bL.1 c).1
 refine⟨cell i j,?_,(f i j a g).2,h i j e x c d⟩
 rw[show o+i * esz+j=o+(i * esz+j) by omega]
 exact k _ _ _ (f i j a g).1
theorem Dr{P:Program}{t:TypeId}{f:Bool}{n:Nat}(g:fw P t=some f)(p:ay P t=some n){M ι w}(k : ∀b o x,M b o=some x->w.cell? ⟨b,o,none⟩=some x)
 {esz i j:Nat} {es:List AV} {y:AV} {a:Value} (s:VR M ι (.iptr esz es i j) a) (c:bq es i j n f=some y) :
 ∃u,(Instr.loadAt t a).run P w = .ok u w/\VR M ι y u:=by
 cases s with | iptr cell l he h=>
 rename_i b o
 unfold bq at c
 split at c
 ·cases c
 ·rename_i e m
  obtain⟨u,d,q⟩:=lv g p (oL.GY k l he h m) c
  refine⟨u,?_,q.up ι⟩
  rw[show o+i * esz+j=o+(i * esz+j) by omega]at d
  simp[Instr.loadAt,Instr.sureAddr,d]
structure pR (w w':World) (o:Obj):Prop where
 os:w'.os=w.os
 tape:w'.tape=w.tape
 output:w'.output=w.output
 heap:w'.heap=w.heap.push o
theorem pR.cell{w w':World}{o:Obj}(h:pR w w' o){a:Addr}{x:Value}(b:w.cell? a=some x):w'.cell? a=some x:=by
 have c:=World.block_lt_of_cell? w a b
 unfold World.cell? at b ⊢
 rw[h.heap,qn c,<-ey c]
 exact b
theorem pR.old{w w':World}{o:Obj}(h:pR w w' o)(b:Nat)(a:b<w.heap.size):w'.heap[b]?=w.heap[b]?:=by
 rw[h.heap,qn a,<-ey a]
def dm(ι:Map)(q:Ref)(l:Loc):Map:=λr=>if r=q then some l else ι r
def fv(g:bD)(q:Ref)(k:ax):bD:=λr=>if r=q then some k else g r
theorem qR{ι:Map}{q:Ref}{l:Loc}(b:ι q=none) : ∀r a,ι r=some a->dm ι q l r=some a:=by
 intro r a h
 unfold dm
 split
 ·subst_vars;rw[b]at h;cases h
 ·exact h
theorem cT.E5{M ι g w}(h:cT M ι g w){q:Ref}(b:ι q=none):g q=none:=by
 cases c:g q with
 | none=>rfl
 | some k=>obtain⟨l,a,_⟩:=h.live q k c;rw[b]at a;cases a
theorem cy.lt{M ι w l k}(h:cy M ι w l k):l.b<w.heap.size:=by
 obtain⟨arr,T,fz,a,_⟩:=h.heap
 exact(dz.1 a).1
theorem gw.lt{M ι w l k}(h:gw M ι w l k):l.b<w.heap.size:=by
 rcases h.obj with ⟨_,a⟩ | ⟨_,_,a⟩ | ⟨_,_,_,_,_,_,a⟩
 ·exact(dz.1 a).1
 ·exact(dz.1 a).1
 ·exact(dz.1 a).1
theorem ib.lt{M ι w l k}(h:ib M ι w l k):l.b<w.heap.size:=by
 rcases tT k.esz with e | e
 ·exact(h.objOk e).lt
 ·exact(h.cellsOk e).lt
theorem ib.DQ{M ι w l k}(h:ib M ι w l k){arr:Array Value}{T:TypeId}{fz:Nat × Nat}(c:w.heap[l.b]?=some (.cells arr T fz)):cy M ι w l k/\0<k.esz:=by
 rcases tT k.esz with e | e
 ·rcases(h.objOk e).obj with ⟨_,a⟩ | ⟨_,_,a⟩ | ⟨_,_,_,_,_,_,a⟩
  ·rw[c]at a;cases a
  ·rw[c]at a;cases a
  ·rw[c]at a;cases a
 ·exact⟨h.cellsOk e,e⟩
theorem cy.bm{M ι w l k M' ι' w'}(h:cy M ι w l k)(A : ∀b o x,M b o=some x->M' b o=some x)(c : ∀r l,ι r=some l->ι' r=some l)
 (v:w'.heap[l.b]?=w.heap[l.b]?) (t : ∀o x,M' l.b o=some x->k.cS=true/\o<k.es.length * k.esz):cy M' ι' w' l k:=by
 obtain⟨arr,T,fz,s,p,y,B⟩:=h.heap
 refine⟨h.esz,⟨arr,T,fz,v ▸ s,p,y,?_⟩,h.len,h.cells,t⟩
 intro i j e x q m
 obtain⟨u,z,g,n⟩:=B i j e x q m
 refine⟨u,z,g,n.mono A _ ?_⟩
 intro r f a
 unfold ax.map at a ⊢
 split
 ·rename_i d;rw[if_pos d]at a;exact a
 ·rename_i d;rw[if_neg d]at a;exact c r f a
theorem ib.bm{M ι w l k M' ι' w'}(h:ib M ι w l k)(c : ∀b o x,M b o=some x->M' b o=some x)(a : ∀r l,ι r=some l->ι' r=some l)
 (f:w'.heap[l.b]?=w.heap[l.b]?) (d : ∀o x,M' l.b o=some x->k.cS=true/\o<k.es.length * k.esz):ib M' ι' w' l k:=
 ⟨h.esz,λe=>(h.cellsOk e).bm c a f d,λe=>(h.objOk e).mono c a f,d⟩
theorem cT.alloc{M ι g w}(v:cT M ι g w){q:Ref}(V:ι q=none){w':World}{arr:Array Value}{T:TypeId}{fz:Nat × Nat}(s:pR w w' (.cells arr T fz))
 (k:ax) (R:0<k.esz) (n:Nat) (H:arr.size=n * k.esz) (F:oZ k.esz arr.size fz) (C:k.es.length<=n) (f : ∀e∈k.es,e.cells.length=k.esz)
 (S : ∀(i j:Nat) e x,k.es[i]?=some e->e.cells[j]?=some x ->∃u,arr[i * k.esz+j]?=some u/\u.oneCell'=true/\VR M (k.map ι) x u) :
 cT M (dm ι q ⟨w.heap.size,k.esz,n⟩) (fv g q k) w'/\kb M ι g w M (dm ι q ⟨w.heap.size,k.esz,n⟩) (fv g q k) w':=by
 have c:=qR (l:=⟨w.heap.size,k.esz,n⟩) V
 have A : ∀b o x,M b o=some x->b<w.heap.size:=λb o x h=>World.block_lt_of_cell? w ⟨b,o,none⟩ (v.mem b o x h)
 have B:w'.heap[w.heap.size]?=some (.cells arr T fz):=by rw[s.heap];simp
 refine⟨⟨λb o x h=>s.cell (v.mem b o x h),?_,?_⟩,⟨s.os,s.tape,s.output,by rw[s.heap];simp,λb d _=>s.old b d,λ_ _ _ h=>h,c,?_,λ_ _ _ h => .inl h⟩⟩
 ·intro r k' m
  unfold fv at m
  split at m
  ·rename_i e
   subst e
   cases m
   refine⟨⟨w.heap.size,k.esz,n⟩,by simp[dm],cy.BM ⟨rfl,⟨arr,T,fz,B,H,F,?_⟩,C,f,?_⟩ R⟩
   ·intro i j e x O L
    obtain⟨u,U,P,Q⟩:=S i j e x O L
    refine⟨u,U,P,Q.mono (λ_ _ _ h=>h) _ ?_⟩
    intro r' K a
    unfold ax.map at a ⊢
    split
    ·rename_i I;rw[if_pos I]at a;exact a
    ·rename_i I;rw[if_neg I]at a;exact c r' K a
   ·intro o x h
    exact absurd (A _ _ _ h) (od _)
  ·obtain⟨l,a,d⟩:=v.live r k' m
   exact⟨l,c r l a,d.bm (λ_ _ _ h=>h) c (s.old _ d.lt) d.frozen⟩
 ·intro r r' k1 J W N y z p t G
  unfold fv at y z
  unfold dm at p t
  by_cases D:r=q<;>by_cases E:r'=q
  ·rw[D,E]
  ·rw[if_pos D]at p;rw[if_neg E]at z t
   obtain⟨l,a,d⟩:=v.live r' J z
   rw[a]at t;cases t;cases p
   exact absurd d.lt (by rw[<-G];exact od _)
  ·rw[if_neg D]at y p;rw[if_pos E]at t
   obtain⟨l,a,d⟩:=v.live r k1 y
   rw[a]at p;cases p;cases t
   exact absurd d.lt (by rw[G];exact od _)
  ·rw[if_neg D]at y p;rw[if_neg E]at z t
   exact v.inj r r' k1 J W N y z p t G
 ·intro r k' l m a
  unfold fv at m
  unfold dm at a
  split at m
  ·rename_i e;rw[if_pos e]at a;cases a;exact .inl (a7 _)
  ·rename_i e;rw[if_neg e]at a;exact .inr ⟨r,k',l,m,a,rfl⟩
def aJ(w:World)(b:Nat)(o:Obj):World := { w with heap:=w.heap.setIfInBounds b o}
theorem cV{w:World}{b:Nat}{o:Obj}(a:b<w.heap.size):(aJ w b o).heap[b]?=some o:=by simp[aJ,a]
theorem cu{w:World}{b a:Nat}{o:Obj}(h:b≠a):(aJ w b o).heap[a]?=w.heap[a]?:=by simp[aJ,ou h]
def aZ(arr:Array Value)(o:Nat)(us:List Value):Array Value:=(arr.toList.take o++us++arr.toList.drop (o+us.length)).toArray
theorem dB{arr:Array Value}{o:Nat}{us:List Value}(h:o+us.length<=arr.size)(i:Nat) :
 (aZ arr o us)[i]?=if o<=i/\i<o+us.length then us[i - o]? else arr[i]?:=by
 unfold aZ
 simp only[List.getElem?_toArray]
 have b:(arr.toList.take o).length=o:=by simp;omega
 rcases cr i o with a | a
 ·rw[om,dY (by omega),nh,if_pos a,if_neg (by omega)]
  simp
 ·rcases cr i (o+us.length)with c | c
  ·rw[om,fS (by omega),dY (by omega),if_pos ⟨a,c⟩,b]
  ·rw[fS (by simp;omega),oo,if_neg (by omega)]
   simp only[iU,b,ri]
   congr 1
   omega
theorem dS{arr:Array Value}{o:Nat}{us:List Value}(h:o+us.length<=arr.size):(aZ arr o us).size=arr.size:=by
 simp[aZ];omega
theorem fY{P:Program}{b:Nat}{T:TypeId}{fz:Nat × Nat}(o:Nat) : ∀(us:List Value)(i:Nat)(arr:Array Value)(w:World),w.heap[b]?=some (.cells arr T fz) ->
 o+i+us.length<=arr.size->(∀j,j<arr.size ->¬(fz.1<=j/\(j<fz.2\/fz.2<fz.1)))->(∀u∈us,u.oneCell'=true) ->
 (storeCells ⟨b,o,none⟩ us i).run P w = .ok () (aJ w b (.cells (aZ arr (o+i) us) T fz)):=by
 intro us
 induction us with
 | nil=>
  intro i arr w a s n l
  have g:=(dz.1 a).1
  have e:aZ arr (o+i) []=arr:=by simp[aZ]
  have B:aJ w b (.cells arr T fz)=w:=by
   have:w.heap.setIfInBounds b (.cells arr T fz)=w.heap:=by
    apply ql
    intro k
    by_cases c:b=k
    ·subst c;rw[a,rk g]
    ·rw[ou c]
   unfold aJ
   rw[this]
  simp[storeCells,e,B]
 | cons u us y=>
  intro i arr w a s n l
  have g:=(dz.1 a).1
  simp only[kC]at s
  have A:w.cell? ⟨b,o+i,none⟩=some arr[o+i]:=by rw[dU a];exact ey (by omega)
  have p:w.frozen? ⟨b,o+i,none⟩=false:=by
   have:=n (o+i) (by omega)
   simp only[World.frozen?,a]
   simp only[yz,decide_eq_false_iff_not]
   by_cases h:fz.1<=o+i
   ·exact .inr λt=>this ⟨h,.inl t⟩
   ·exact .inl h
  have f:w.setCell ⟨b,o+i,none⟩ u=aJ w b (.cells (arr.setIfInBounds (o+i) u) T fz):=by
   unfold World.setCell aJ
   congr 1
   apply ql
   intro k
   rw[wm]
   by_cases c:b=k
   ·subst c;rw[a,rk g];simp
   ·simp[c,ou c]
  have d:=l u (by simp)
  have m:=y (i+1) (arr.setIfInBounds (o+i) u) (aJ w b (.cells (arr.setIfInBounds (o+i) u) T fz)) (cV g) (by simp;omega) (by simpa using n) (λv z=>l v (by simp[z]))
  simp only[storeCells,Sem.run_bind,cY,run_store P w _ u _ d,A,p,f]
  simp only[kF, ↓reduceIte,Result.andThen_ok]
  rw[m]
  congr 1
  unfold aJ
  simp only[Array.setIfInBounds_setIfInBounds]
  congr 3
  apply ql
  intro k
  rw[dB (by simp;omega),dB (by simp;omega)]
  by_cases x:k=o+i
  ·subst x
   rw[if_neg (by omega),if_pos ⟨a7 _,by simp⟩]
   simp[show o+i<arr.size by omega]
  ·by_cases q:o+(i+1)<=k/\k<o+(i+1)+us.length
   ·rw[if_pos q,if_pos (by simp;omega)]
    rw[show k - (o+i)=(k - (o+(i+1)))+1 by omega]
    simp
   ·rw[if_neg q,if_neg (by simp;omega)]
    rw[ou (by omega)]
theorem cT.mark{M ι g w}(n:cT M ι g w){r:Ref}{k:ax}{l:Loc}(u:g r=some k)(D:ι r=some l){arr:Array Value}{T:TypeId}{A fz:Nat × Nat}{w':World}
 (B:w.heap[l.b]?=some (.cells arr T A)) (m:w'=aJ w l.b (.cells arr T fz)) (v:oZ k.esz arr.size fz):cT M ι g w'/\kb M ι g w M ι g w':=by
 obtain⟨Q,q,N⟩:=n.live r k u
 rw[D]at q;cases q
 have F:=N.lt
 have f:w'.heap[l.b]?=some (.cells arr T fz):=by rw[m];exact cV F
 have d : ∀b,l.b≠b->w'.heap[b]?=w.heap[b]?:=λb a=>by rw[m];exact cu a
 have j : ∀b o,w'.cell? ⟨b,o,none⟩=w.cell? ⟨b,o,none⟩:=by
  intro b o
  by_cases a:l.b=b
  ·subst a;rw[dU f,dU B]
  ·exact World.cell?_of_block (d b a)
 refine⟨⟨λb o x h=>by rw[j];exact n.mem b o x h,?_,n.inj⟩,?_⟩
 ·intro r' k1 s
  obtain⟨E,p,c⟩:=n.live r' k1 s
  refine⟨E,p,?_⟩
  by_cases a:l.b=E.b
  ·obtain⟨i,C⟩:=c.DQ (a ▸ B)
   obtain⟨G,U,H,t,K,R,J⟩:=i.heap
   rw[<-a,B]at t
   injection t with t;injection t with L P S
   subst L;subst P
   have y:k1=k:=by
    have e:=n.inj r r' k k1 l E u s D p a
    subst e;rw[u]at s;exact(ym s).symm
   exact cy.BM ⟨c.esz,⟨arr,T,fz,by rw[<-a];exact f,K,by rw[y];exact v,J⟩,i.len,i.cells,c.frozen⟩ C
  ·exact c.bm (λ_ _ _ h=>h) (λ_ _ h=>h) (d _ a) c.frozen
 ·refine⟨by rw[m];rfl,by rw[m];rfl,by rw[m];rfl,by rw[m];simp[aJ],λb O z=>d b (z r k l u D),λ_ _ _ h=>h,λ_ _ h=>h,λr k l h I => .inr ⟨r,k,l,h,I,rfl⟩,λ_ _ _ h => .inl h⟩
theorem cT.write{M ι g w}(y:cT M ι g w){r:Ref}{k k':ax}{l:Loc}(v:g r=some k)(E:ι r=some l)(Q:0<l.esz){arr:Array Value}{T:TypeId}{fz:Nat × Nat}{w':World}
 (d:w'=aJ w l.b (.cells arr T fz)) (a:k'.esz=k.esz) (O:k'.arr=k.arr) (J:arr.size=l.n * k.esz) (F:oZ k.esz arr.size fz)
 (B:k'.es.length<=l.n) (c : ∀e∈k'.es,e.cells.length=k.esz) (m : ∀o x,M l.b o=some x->False)
 (R : ∀(i j:Nat) e x,k'.es[i]?=some e->e.cells[j]?=some x ->∃u,arr[i * k.esz+j]?=some u/\u.oneCell'=true/\VR M (k'.map ι) x u) :
 cT M ι (fv g r k') w'/\kb M ι g w M ι (fv g r k') w':=by
 obtain⟨W,C,L⟩:=y.live r k v
 rw[E]at C;cases C
 have N:=L.lt
 refine⟨⟨?_,?_,?_⟩,?_⟩
 ·intro b o x h
  have q:l.b≠b:=λe=>m o x (e ▸ h)
  rw[World.cell?_of_block (w:=w) (by rw[d];exact cu q)]
  exact y.mem b o x h
 ·intro r' k1 s
  unfold fv at s
  split at s
  ·rename_i e
   subst e
   cases s
   refine⟨l,E,cy.BM ⟨by rw[L.esz,a],⟨arr,T,fz,by rw[d];exact cV N,by rw[a];exact J,by rw[a];exact F,by rw[a];exact R⟩,B,by rw[a];exact c,λo x h=>(m o x h).elim⟩ (by rw[a,<-L.esz];exact Q)⟩
  ·rename_i q
   obtain⟨f,t,A⟩:=y.live r' k1 s
   have I:l.b≠f.b:=λe=>q (y.inj r' r k1 k f l s v t E e.symm)
   exact⟨f,t,A.bm (λ_ _ _ h=>h) (λ_ _ h=>h) (by rw[d];exact cu I) A.frozen⟩
 ·intro r1 r2 k1 X f P z D U V S
  have p : ∀ {r1:Ref} {k1:ax},fv g r k' r1=some k1 ->∃k,g r1=some k:=by
   intro r1 k1 h
   unfold fv at h
   split at h
   ·rename_i e;exact⟨k,e ▸ v⟩
   ·exact⟨k1,h⟩
  obtain⟨_,G⟩:=p z
  obtain⟨_,K⟩:=p D
  exact y.inj r1 r2 _ _ f P G K U V S
 ·refine⟨by rw[d];rfl,by rw[d];rfl,by rw[d];rfl,by rw[d];simp[aJ],?_,λ_ _ _ h=>h,λ_ _ h=>h,?_,λ_ _ _ h => .inl h⟩
  ·intro b _ H
   rw[d]
   exact cu (H r k l v E)
  ·intro r1 k1 f z D
   unfold fv at z
   split at z
   ·rename_i e;subst e;exact .inr ⟨r1,k,f,v,D,rfl⟩
   ·exact .inr ⟨r1,k1,f,z,D,rfl⟩
end Go.Ab
namespace Go.Ab
open Classical
def Ck(ι:Map)(g:bD)(R:List Ref)(b o:Nat):Prop :=∃r∈R,∃k l,g r=some k/\ι r=some l/\l.b=b/\o<k.es.length * k.esz
noncomputable def eU(M:Mem)(ι:Map)(g:bD)(w:World)(R:List Ref):Mem:=λb o=>
 match M b o with
 | some x=>some x
 | none=>if Ck ι g R b o then w.cell? ⟨b,o,none⟩ else none
theorem lE{M ι g w R} : ∀b o x,M b o=some x->eU M ι g w R b o=some x:=by
 intro b o x h;simp[eU,h]
theorem mS{M ι g w R}(a : ∀b o x,M b o=some x->w.cell? ⟨b,o,none⟩=some x) : ∀b o x,eU M ι g w R b o=some x->w.cell? ⟨b,o,none⟩=some x:=by
 intro b o x h
 unfold eU at h
 split at h
 ·rename_i y c;cases h;exact a b o _ c
 ·split at h
  ·exact h
  ·cases h
theorem mT{M ι g w R b o x}(h:eU M ι g w R b o=some x):M b o=some x\/Ck ι g R b o:=by
 unfold eU at h
 split at h
 ·rename_i y a;cases h;exact .inl a
 ·split at h
  ·rename_i c;exact .inr c
  ·cases h
theorem p7{n esz i j:Nat}(a:i<n)(b:j<esz):i * esz+j<n * esz:=by
 have:(i+1) * esz<=n * esz:=fV _ a
 rw[fC]at this
 omega
theorem td{M ι g w R}(n:cT M ι g w){r:Ref}{k:ax}{l:Loc}(t:r∈R)(s:g r=some k)(q:ι r=some l){i j:Nat}(h:i<k.es.length)(v:j<k.esz) :
 ∃u,eU M ι g w R l.b (i * k.esz+j)=some u/\u.oneCell'=true/\w.cell? ⟨l.b,i * k.esz+j,none⟩=some u /\
  ∀e x,k.es[i]?=some e->e.cells[j]?=some x->VR M (k.map ι) x u:=by
 obtain⟨G,d,f⟩:=n.live r k s
 rw[q]at d;cases d
 replace f:=f.cellsOk (by omega)
 obtain⟨arr,T,fz,D,H,I,z⟩:=f.heap
 have c:k.es[i]?=some k.es[i]:=bG h
 have F:=f.cells k.es[i] (eE h)
 have a:k.es[i].cells[j]?=some (k.es[i].cells[j]'(by omega)):=bG _
 obtain⟨u,E,A,C⟩:=z i j _ _ c a
 have m:w.cell? ⟨l.b,i * k.esz+j,none⟩=some u:=by rw[dU D];exact E
 refine⟨u,?_,A,m,?_⟩
 ·unfold eU
  split
  ·rename_i y B;have:=n.mem _ _ _ B;rw[m]at this;cases this;rfl
  ·rw[if_pos ⟨r,t,k,l,s,q,rfl,p7 h v⟩];exact m
 ·intro e x p o
  rw[c]at p;cases p
  rw[a]at o;cases o
  exact C
theorem wG{g:bD}{n:Nat}{x y:AV}(h:view g (n+1) x=some y)(c : ∀cs,x ≠ .agg cs):x.cells=[x]/\y.cells=[y]:=by
 refine⟨by cases x<;>first | rfl | exact absurd rfl (c _),?_⟩
 cases x with
 | agg cs=>exact absurd rfl (c cs)
 | v x=>simp[view]at h;subst h;rfl
 | tup cs=>simp only[view,aC]at h;obtain⟨_,_,rfl⟩:=h;rfl
 | cE=>simp[view]at h;subst h;rfl
 | iptr=>simp[view]at h;subst h;rfl
 | fsl=>simp[view]at h
 | aD r off len cap=>
  simp only[view]at h
  split at h
  ·split at h
   ·cases h;rfl
   ·cases h
  ·cases h
 | dsl r off len cap=>
  simp only[view]at h
  split at h
  ·split at h
   ·simp only[aC]at h;obtain⟨_,_,rfl⟩:=h;rfl
   ·cases h
  ·cases h
 | nsl=>simp[view]at h
 | ptr r i j=>
  simp only[view]at h
  split at h
  ·split at h
   ·cases h;rfl
   ·simp only[aC]at h;obtain⟨_,_,rfl⟩:=h;rfl
  ·cases h
 | fn f a b=>
  simp only[view]at h
  split at h
  ·cases h;rfl
  ·cases h
 | ifc t x=>simp only[view,aC]at h;obtain⟨_,_,rfl⟩:=h;rfl
 | yld=>simp[view]at h
 | mp=>simp[view]at h
 | ch=>simp[view]at h
 | m7=>simp[view]at h
 | lp=>simp[view]at h
theorem mB{g:bD}{n:Nat}{e i:AV}(h:view g (n+1) e=some i) :
 i.cells.length=e.cells.length /\∀(j:Nat) d,i.cells[j]?=some d ->∃m x,m<=n+1/\e.cells[j]?=some x/\view g m x=some d /\∀r∈ab g m x,r∈ab g (n+1) e:=by
 by_cases b : ∃cs,e = .agg cs
 ·obtain⟨cs,rfl⟩:=b
  simp only[view,aC]at h
  obtain⟨q,c,rfl⟩:=h
  refine⟨by simp[AV.cells,cW c],?_⟩
  intro j d a
  obtain⟨x,b,o⟩:=gV c j d (by simpa [AV.cells] using a)
  refine⟨n,x,by omega,by simpa [AV.cells] using b,o,?_⟩
  intro r f
  simp only[ab,dt]
  exact⟨x,da b,f⟩
 ·obtain⟨k,l⟩:=wG h (λcs p=>b ⟨cs,p⟩)
  refine⟨by rw[k,l];rfl,?_⟩
  intro j d a
  rw[l]at a
  cases j with
  | zero=>
   simp at a
   subst a
   exact⟨n+1,e,a7 _,by rw[k];rfl,h,λr f=>f⟩
  | succ j=>simp at a
theorem pf{M ι g w R}(hS:cT M ι g w) : ∀(n:Nat)(x y:AV)(u:Value),view g n x=some y->(∀r∈ab g n x,r∈R)->VR M ι x u->VR (eU M ι g w R) bB y u:=by
 intro n
 induction n using Nat.strongRecOn with | ind n ih=>
 intro x y u h L P
 cases n with
 | zero=>simp[view]at h
 | succ n=>
  have E : ∀ {cs ys:List AV} {us:List Value},cs.mapM (view g n)=some ys->(∀r∈cs.flatMap (ab g n),r∈R)->fq M ι cs us->fq (eU M ι g w R) bB ys us:=by
   intro cs ys us I L Kr
   refine⟨by rw[cW I];exact Kr.1,λi y' u hy N=>?_⟩
   obtain⟨x,D,hf⟩:=gV I i y' hy
   exact ih n (by omega) x y' u hf (λr J=>L r (dt.2 ⟨x,da D,J⟩)) (Kr.2 i x u D N)
  cases x with
  | v x=>simp[view]at h;subst h;cases P with | v hs=>exact .v hs
  | agg cs=>
   simp only[view,aC]at h
   obtain⟨ys,I,rfl⟩:=h
   cases P with | agg hl W=>
   exact VR.iE.2 (E I (by simpa [ab] using L) (VR.iE.1 (.agg hl W)))
  | tup cs=>
   simp only[view,aC]at h
   obtain⟨ys,I,rfl⟩:=h
   cases P with | tup h0 hl W=>
   rename_i vs
   have:=E (us:=vs.toList) I (by simpa [ab] using L) ⟨by simpa using hl,λi x u D N=>W i x u D (by simpa using N)⟩
   refine .tup ?_ (by simpa using this.1) λi c u hc N=>this.2 i c u hc (by simpa using N)
   intro e
   subst e
   have G:=cW I
   exact h0 (rj (by simpa using G.symm))
  | cE esz es cap=>
   simp[view]at h;subst h
   cases P with | cE cell hs hc O hm F W=>
   exact(VR.cE (M:=M) (ι:=bB) cell hs hc O hm F W).mono lE _ (λ_ _ h=>h)
  | iptr esz es i j=>
   simp[view]at h;subst h
   cases P with | iptr cell hm F W=>
   exact(VR.iptr (M:=M) (ι:=bB) cell hm F W).mono lE _ (λ_ _ h=>h)
  | fsl=>simp[view]at h
  | aD r off len cap=>
   simp only[view]at h
   split at h
   ·rename_i k O
    split at h
    ·rename_i W
     cases h
     obtain⟨A,C⟩:=W
     cases P with | aD J hb hs ha hc hn Z V=>
     rename_i l a c
     have Q:r∈R:=L r (by simp[ab])
     have q:=hS.at J V O
     have T:((k.es.drop off).take len).length=len:=by simp;omega
     have Kp : ∀i,i<len->((k.es.drop off).take len)[i]?=k.es[off+i]?:=by
      intro i d
      rw[nh,if_pos d,oo]
     have H:0<len->a.off=off * k.esz:=by
      intro h0
      rcases ha with h | h
      ·omega
      ·rw[h,q.esz]
     have key : ∀i j,i<len->j<k.esz ->∃u,eU M ι g w R a.block (a.off+(i * k.esz+j))=some u/\u.oneCell'=true /\∀e x,k.es[off+i]?=some e->e.cells[j]?=some x->VR M (k.map ι) x u:=by
      intro i j d B
      obtain⟨u,G,K,_,h3⟩:=td hS Q O J (i:=off+i) (j:=j) (by omega) B
      refine⟨u,?_,K,h3⟩
      rw[H (by omega),hb,show off * k.esz+(i * k.esz+j)=(off+i) * k.esz+j by rw[fC];omega]
      exact G
     let cell:Nat->Nat->Value:=λi j=>(eU M ι g w R a.block (a.off+(i * k.esz+j))).getD undef
     have:=VR.cE (M:=eU M ι g w R) (ι:=bB) (esz:=k.esz) (es:=(k.es.drop off).take len) (cap:=cap) (a:=a) (c:=c) cell (.inl hs) (by omega) Z
      (by
       intro i j d B
       rw[T]at d
       obtain⟨u,G,K,_⟩:=key i j d B
       simp[cell,G,K])
      (by
       intro e F
       exact q.cells e (pa (m0 F)))
      (by
       intro i j e x d D
       have s:i<len:=by have:=(bL.1 d).1;omega
       rw[Kp i s]at d
       have B:j<k.esz:=by
        rw[<-q.cells e (da d)]
        exact(bL.1 D).1
       obtain⟨u,G,K,h3⟩:=key i j s B
       have:=h3 e x d D
       rw[ax.map,if_pos A]at this
       simp only[cell,G,bQ]
       exact this.mono lE _ (λ_ _ h=>h))
     rw[T]at this
     exact this
    ·cases h
   ·cases h
  | nsl=>simp[view]at h
  | dsl r off len cap=>
   simp only[view]at h
   split at h
   ·rename_i k O
    split at h
    ·rename_i W
     obtain⟨A,C⟩:=W
     simp only[aC]at h
     obtain⟨es',p,rfl⟩:=h
     cases P with | dsl J hb hs ha hc hn Z V=>
     rename_i l a c
     have Q:r∈R:=L r (by simp[ab])
     have q:=hS.at J V O
     have KB:=cW p
     have T:((es'.drop off).take len).length=len:=by simp;omega
     have Kp : ∀i,i<len->((es'.drop off).take len)[i]?=es'[off+i]?:=by
      intro i d
      rw[nh,if_pos d,oo]
     have H:0<len->a.off=off * k.esz:=by
      intro h0
      rcases ha with h | h
      ·omega
      ·rw[h,q.esz]
     have key : ∀i j,i<len->j<k.esz ->∃u,eU M ι g w R a.block (a.off+(i * k.esz+j))=some u/\u.oneCell'=true /\∀e x,k.es[off+i]?=some e->e.cells[j]?=some x->VR M (k.map ι) x u:=by
      intro i j d B
      obtain⟨u,G,K,_,h3⟩:=td hS Q O J (i:=off+i) (j:=j) (by omega) B
      refine⟨u,?_,K,h3⟩
      rw[H (by omega),hb,show off * k.esz+(i * k.esz+j)=(off+i) * k.esz+j by rw[fC];omega]
      exact G
     let cell:Nat->Nat->Value:=λi j=>(eU M ι g w R a.block (a.off+(i * k.esz+j))).getD undef
     cases n with
     | zero=>
      cases S:k.es with
      | nil=>
       rw[S]at p C
       simp at p C
       subst p
       obtain⟨rfl,rfl⟩:=C
       have:=VR.cE (M:=eU M ι g w R) (ι:=bB) (esz:=k.esz) (es:=[]) (cap:=cap) (a:=a) (c:=c) cell (.inr rfl) (by simp) Z (by intro i j d;simp at d) (by simp) (by intro i j e x d;simp at d)
       simpa using this
      | cons e es=>
       rw[S]at p
       simp[view]at p
     | succ n=>
      have:=VR.cE (M:=eU M ι g w R) (ι:=bB) (esz:=k.esz) (es:=(es'.drop off).take len) (cap:=cap) (a:=a) (c:=c) cell (.inl hs) (by omega) Z
       (by
        intro i j d B
        rw[T]at d
        obtain⟨u,G,K,_⟩:=key i j d B
        simp[cell,G,K])
       (by
        intro e' Kq
        have Kt:=pa (m0 Kq)
        obtain⟨U,s,rfl⟩:=il Kt
        obtain⟨e,F,hf⟩:=gV p U _ (bG s)
        rw[(mB hf).1]
        exact q.cells e (da F))
       (by
        intro U j' e' x' s x6
        have Ks:U<len:=by have:=(bL.1 s).1;omega
        rw[Kp U Ks]at s
        obtain⟨e,F,hf⟩:=gV p (off+U) e' s
        obtain⟨m,x,hm,D,Kn,Y⟩:=(mB hf).2 j' x' x6
        have B:j'<k.esz:=by
         rw[<-q.cells e (da F)]
         exact(bL.1 D).1
        obtain⟨u,G,K,h3⟩:=key U j' Ks B
        have X:=h3 e x F D
        rw[ax.map,if_neg (by simp[A])]at X
        simp only[cell,G,bQ]
        refine ih m (by omega) x x' _ Kn ?_ X
        intro r' Ko
        refine L r' ?_
        simp only[ab,O,dg,dt]
        exact .inr ⟨e,da F,Y r' Ko⟩)
      rw[T]at this
      exact this
    ·cases h
   ·cases h
  | ptr r i j=>
   cases P with | ptr J V=>
   rename_i l
   simp only[view]at h
   split at h
   ·rename_i k O
    have Q:r∈R:=L r (by simp[ab])
    have q:=hS.at J V O
    let cell:Nat->Nat->Value:=λi j=>(eU M ι g w R l.b (0+(i * k.esz+j))).getD undef
    have z : ∀i j,i<k.es.length->j<k.esz->eU M ι g w R l.b (0+(i * k.esz+j))=some (cell i j)/\(cell i j).oneCell'=true /\∀e x,k.es[i]?=some e->e.cells[j]?=some x->VR M (k.map ι) x (cell i j):=by
     intro i j d B
     obtain⟨u,G,K,_,h3⟩:=td hS Q O J d B
     rw[lS]at *
     simp only[cell,lS,G,bQ]
     exact⟨trivial,K,h3⟩
    split at h
    ·rename_i A
     cases h
     have:=VR.iptr (M:=eU M ι g w R) (ι:=bB) (esz:=k.esz) (es:=k.es) (i:=i) (j:=j) (b:=l.b) (o:=0) cell (λi j d B=>⟨(z i j d B).1,(z i j d B).2.1⟩) q.cells
      (by
       intro i j e x d D
       have s:=(bL.1 d).1
       have B:j<k.esz:=by
        rw[<-q.cells e (da d)]
        exact(bL.1 D).1
       have:=(z i j s B).2.2 e x d D
       rw[ax.map,if_pos A]at this
       exact this.mono lE _ (λ_ _ h=>h))
     rw[lS]at this
     rw[q.esz]
     exact this
    ·rename_i A
     simp only[aC]at h
     obtain⟨es',p,rfl⟩:=h
     cases n with
     | zero=>
      cases S:k.es with
      | nil=>
       rw[S]at p
       simp at p
       subst p
       have:=VR.iptr (M:=eU M ι g w R) (ι:=bB) (esz:=k.esz) (es:=[]) (i:=i) (j:=j) (b:=l.b) (o:=0) cell (by intro i j d;simp at d) (by simp) (by intro i j e x d;simp at d)
       rw[lS]at this
       rw[q.esz]
       exact this
      | cons e es=>
       rw[S]at p
       simp[view]at p
     | succ n=>
      have C:=cW p
      have:=VR.iptr (M:=eU M ι g w R) (ι:=bB) (esz:=k.esz) (es:=es') (i:=i) (j:=j) (b:=l.b) (o:=0) cell
       (λi j d B=>⟨(z i j (C ▸ d) B).1,(z i j (C ▸ d) B).2.1⟩)
       (by
        intro e' Kq
        obtain⟨U,s,rfl⟩:=il Kq
        obtain⟨e,F,hf⟩:=gV p U _ (bG s)
        rw[(mB hf).1]
        exact q.cells e (da F))
       (by
        intro U j' e' x' s x6
        obtain⟨e,F,hf⟩:=gV p U e' s
        obtain⟨m,x,hm,D,Kn,Y⟩:=(mB hf).2 j' x' x6
        have KA:=(bL.1 F).1
        have B:j'<k.esz:=by
         rw[<-q.cells e (da F)]
         exact(bL.1 D).1
        have X:=(z U j' KA B).2.2 e x F D
        rw[ax.map,if_neg A]at X
        refine ih m (by omega) x x' _ Kn ?_ X
        intro r' Ko
        refine L r' ?_
        simp only[ab,O,if_neg A,dg,dt]
        exact .inr ⟨e,da F,Y r' Ko⟩)
      rw[lS]at this
      rw[q.esz]
      exact this
   ·cases h
  | fn f a b=>
   simp only[view]at h
   split at h
   ·rename_i a' b' Ku Kx
    cases h
    cases P with | fn Kz Kv Ky Kw=>
    rename_i va vb
    simp only[ab,fc]at L
    have G:=E (us:=va.toList) Ku (λr J=>L r (.inl J)) ⟨by simpa using Kz,λi x u D N=>Ky i x u D (by simpa using N)⟩
    have K:=E (us:=vb.toList) Kx (λr J=>L r (.inr J)) ⟨by simpa using Kv,λi x u D N=>Kw i x u D (by simpa using N)⟩
    exact .fn (by simpa using G.1) (by simpa using K.1) (λi c u hc N=>G.2 i c u hc (by simpa using N)) (λi c u hc N=>K.2 i c u hc (by simpa using N))
   ·cases h
  | ifc t x=>
   simp only[view,aC]at h
   obtain⟨y,hy,rfl⟩:=h
   cases P with | ifc P=>
   exact .ifc (ih n (by omega) x y _ hy (by simpa [ab] using L) P)
  | yld=>simp[view]at h
  | mp=>simp[view]at h
  | ch=>simp[view]at h
  | m7=>simp[view]at h
  | lp=>simp[view]at h
def j7(g:bD)(R:List Ref):bD:=λr=>if r∈R then (g r).map λk => { k with cS:=true} else g r
theorem nx{M ι g w R}(B:cT M ι g w):cT (eU M ι g w R) ι (j7 g R) w/\kb M ι g w (eU M ι g w R) ι (j7 g R) w:=by
 have c : ∀ {r k},j7 g R r=some k ->∃a,g r=some a/\k = { a with cS:=k.cS}/\(r∈R->k.cS=true)/\(a.cS=true->k.cS=true):=by
  intro r k h
  unfold j7 at h
  split at h
  ·simp only[aC]at h
   obtain⟨a,F,rfl⟩:=h
   exact⟨a,F,rfl,λ_=>rfl,λ_=>rfl⟩
  ·rename_i E
   exact⟨k,h,rfl,λD=>absurd D E,λh=>h⟩
 refine⟨⟨mS B.mem,?_,?_⟩,⟨rfl,rfl,rfl,a7 _,λ_ _ _=>rfl,lE,λ_ _ h=>h,?_,?_⟩⟩
 ·intro r k h
  obtain⟨a,q,H,E,hm⟩:=c h
  obtain⟨l,v,d⟩:=B.live r a q
  refine⟨l,v,?_⟩
  have s:k.es=a.es:=by rw[H]
  have n:k.esz=a.esz:=by rw[H]
  have J:k.arr=a.arr:=by rw[H]
  have p : ∀o x,eU M ι g w R l.b o=some x->k.cS=true/\o<k.es.length * k.esz:=by
   intro o x z
   rw[s,n]
   rcases mT z with h | ⟨r',A,k',y,f,m,t,C⟩
   ·exact⟨hm (d.frozen o x h).1,(d.frozen o x h).2⟩
   ·have e:=B.inj r' r k' a y l f q m v t
    subst e
    rw[q]at f;cases f
    exact⟨E A,C⟩
  refine⟨by rw[n];exact d.esz,λG=>?_,λG=>?_,p⟩
  ·replace d:=d.cellsOk (by rw[<-n];exact G)
   obtain⟨arr,T,fz,N,Q,K,P⟩:=d.heap
   refine⟨by rw[n];exact d.esz,⟨arr,T,fz,N,by rw[n];exact Q,by rw[n];exact K,?_⟩,by rw[s];exact d.len,by rw[s,n];exact d.cells,p⟩
   intro i j e x I z
   rw[s]at I
   rw[n]
   obtain⟨u,O,C,L⟩:=P i j e x I z
   refine⟨u,O,C,?_⟩
   have:k.map ι=a.map ι:=by unfold ax.map;rw[J]
   rw[this]
   exact L.mono lE _ (λ_ _ h=>h)
  ·exact((d.objOk (by rw[<-n];exact G)).mono (M':=eU M ι g w R) lE (λ_ _ h=>h) rfl).same n J s
 ·intro r r' k k' l y h D v m d
  obtain⟨a,q,_⟩:=c h
  obtain⟨k1,s,_⟩:=c D
  exact B.inj r r' _ _ l y q s v m d
 ·intro r k l h v
  obtain⟨a,q,_⟩:=c h
  exact .inr ⟨r,a,l,q,v,rfl⟩
 ·intro b o x z
  rcases mT z with h | ⟨r',A,k',y,f,m,t,C⟩
  ·exact .inl h
  ·exact .inr (.inr ⟨r',k',y,f,m,t⟩)
theorem xG{g:bD}{R:List Ref}(h:gM g R=true):j7 g R=g:=by
 funext r
 unfold j7
 split
 ·rename_i b
  simp only[gM,dh]at h
  have:=h r b
  cases a:g r with
  | none=>rfl
  | some k=>
   rw[a]at this
   simp at this
   simp[<-this]
 ·rfl
end Go.Ab
