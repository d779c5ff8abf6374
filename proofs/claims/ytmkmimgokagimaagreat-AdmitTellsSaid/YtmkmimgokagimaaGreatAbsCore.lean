/-
  The abstract machine: a deterministic evaluator of the model's code over data, in which a slice that nobody writes is a list. No statement of a seat is proved here.
-/
import Derived.WalkKit
import Derived.RangeFuncIn
import Derived.RangeFuncRecord
import Derived.RangeFuncLeaves
import Derived.OrdersIn
set_option linter.unusedVariables false
set_option linter.unusedSimpArgs false
set_option linter.unusedSectionVars false
set_option linter.unnecessarySimpa false
namespace Go.Ab
set_option linter.defProp false
def bN := @Option.map_eq_some_iff
def aY := @Bool.and_eq_true
def fO := @Option.ite_none_right_eq_some
def fj := @List.getElem?_eq_getElem
def fe := @List.take_of_length_le
def iX := @List.getElem?_eq_some_iff
def iw := @Option.bind_eq_some_iff
def ku := @Array.getElem?_eq_getElem
def fN := @Option.bind_some
def de := @Nat.le_refl
def cY := @Option.getD_some
def iR := @Array.getElem?_eq_some_iff
def gU := @Option.isSome_iff_exists
def dN := @Bool.not_eq_true'
def dT := @Option.some.injEq
def fU := @List.mem_of_getElem?
def iA := @List.mem_cons_of_mem
def fv := @Bool.or_eq_true
def gy := @List.all_eq_true
def lb := @Nat.eq_of_beq_eq_true
def jB := @List.mem_cons_self
def kG := @Bool.not_eq_false'
def oI := @List.getElem?_append_left
def p4 := @List.getElem?_append_right
def fE := @Nat.lt_or_ge
def mY := @Nat.mul_le_mul_right
def mr := @Bool.false_eq_true
def mq := @List.getElem_mem
def iQ := @Nat.le_of_lt
def pH := @List.length_append
def pG := @List.getElem?_map
def oH := @List.mem_append
def tD := @List.getElem_of_mem
def nY := @List.mapM_cons
def nB := @List.mem_cons
def nX := @Bool.true_and
def CC := @Array.getElem?_setIfInBounds_ne
def vf := @Option.bind_eq_bind
def sc := @List.length_cons
def sa := @Nat.lt_succ_self
def tC := @List.mem_flatMap
def nA := @Nat.add_mul
def Hk := @Array.getElem?_setIfInBounds_self_of_lt
def uG := @List.length_take
def vS := @List.mem_singleton
def Dy := @List.eq_nil_of_length_eq_zero
def yN := @Bool.and_eq_true_iff
def uF := @Option.pure_def
def uE := @List.append_nil
def uD := @List.length_map
def AR := @List.getElem?_eq_none
def AQ := @List.mem_of_mem_take
def vR := @Option.getD_none
def uC := @List.map_cons
def F0 := @Array.getD_eq_getD_getElem?
def w9 := @List.nil_append
def w8 := @List.foldl_cons
def AP := @List.flatMap_cons
def vd := @List.mem_map
def Bs := @Classical.not_not
def yM := @Bool.false_and
def yL := @List.mem_range
def yK := @Bool.and_assoc
def CB := @List.getElem?_take
def vQ := @Nat.zero_add
def CA := @Nat.pos_of_ne_zero
def AO := @List.cons.injEq
def FZ := @Array.getElem?_push_lt
def Dx := @Array.length_toList
def Dw := @Int.toNat_of_nonneg
def yJ := @Prod.mk.injEq
def Dv := @List.append_assoc
def M5 := @Array.eq_empty_of_size_eq_zero
def FY := @Array.ext_getElem?
def FX := @Nat.lt_of_lt_of_le
def Br := @List.all_cons
def Hj := @List.mem_of_mem_drop
def Du := @UInt8.toNat_inj
def Hi := @List.length_pos_iff
def Cz := @Nat.lt_irrefl
def Hh := @List.getElem?_drop
def Ko := @Array.getElem?_toList
def FV := @Option.map_none
def Cy := @Nat.le_trans
def Hg := @Nat.lt_succ_of_lt
def Dt := @Sum.inr.injEq
def M4 := @Int.eq_ofNat_of_zero_le
def MZ := @List.getElem?_set_self
def Kn := @Nat.eq_zero_or_pos
def Ds := @Nat.add_zero
def MY := @Nat.le_of_ble_eq_true
def MX := @Array.getElem?_modify
def Hf := @List.length_nil
def He := @List.map_append
def Hd := @Bool.eq_iff_iff
def FU := @Sum.inl.injEq
def FT := @Bool.not_true
def Km := @Nat.lt_trichotomy
def MW := @List.getElem?_set_ne
def Hc := @Bool.not_false
def sf := @Eq.symm
def E4 := @List.length_drop
def E3 := @List.not_mem_nil
def HF := @Bool.or_eq_true_iff
def Lr := @Nat.add_sub_cancel_left
def C1 := @Bool.and_true
def tP := @Ne.symm
def HE := @BitVec.toNat_ofInt
def PY := @Option.ite_none_left_eq_some
def Lq := @List.contains_iff_mem
def E2 := @List.drop_drop
def HD := @UInt32.toNat_inj
def HC := @List.any_eq_true
def HB := @List.flatMap_nil
def HA := @List.take_length
def Hz := @Option.bind_none
def Hy := @List.filter_cons
def E1 := @Bool.false_or
def PX := @Array.getElem?_append_left
def Lp := @List.map_congr_left
def Hw := @List.mem_filter
def PW := @List.extract_eq_take_drop
def Hv := @Nat.min_eq_left
def Hu := @List.find?_cons
def PV := @Array.getElem?_replicate
def E0 := @List.map_set
def EZ := @Int.lt_or_le
def Lo := @BitVec.getLsbD_and
def Ln := @BitVec.getLsbD_not
def Ht := @Bool.and_false
def PU := @List.getElem?_cons_zero
def Lm := @List.ext_getElem?
def Ll := @List.take_add_one
def EY := @Nat.zero_le
def EX := @Nat.le_succ
def PT := @List.range_succ_eq_map
def Hr := @List.mapM_nil
def Hq := @List.any_cons
def Lk := @Array.toList_inj
def PS := @UInt8.lt_iff_toNat_lt
def PR := @List.getElem?_toArray
def PQ := @Bool.and_eq_false_iff
def PO := @List.length_filter_le
def Hp := @Bool.or_self
def PN := @List.mem_append_left
def Uu := @List.eq_nil_iff_forall_not_mem
def PM := @Array.toList_extract
def Lj := @List.length_set
def PL := @List.range_eq_range'
def PK := @List.replicate_succ
def PJ := @Nat.succ_eq_add_one
def PI := @UInt32.toBitVec_and
def PH := @UInt32.toBitVec_not
def Li := @List.drop_zero
def Ho := @Nat.le_zero
def Hn := @Nat.sub_mul
def PG := @Nat.lt_or_gt_of_ne
def PF := @Array.foldl_toList
def PE := @List.zip_cons_cons
def PD := @List.filter_append
def Lh := @Nat.add_assoc
def Lg := @List.map_take
def PC := @Int.toNat_natCast
def PB := @Int.emod_eq_of_lt
def PA := @List.nodup_append
def Hm := @Array.ext'
def Hl := @Nat.not_lt
def Lf := @List.map_nil
def Le := @List.map_map
def Pz := @Nat.min_eq_right
def Ld := @Nat.succ_mul
def Py := @List.cons_append
def Px := @List.drop_length
def Pw := @List.nodup_cons
def Lc := @Int.le_refl
structure Ref where
 d:Nat
 t:Nat
 g:Nat
 k:Nat:=0
deriving DecidableEq,Inhabited
inductive AV where
 | v (x:Value)
 | agg (cs:List AV)
 | tup (vs:List AV)
 | cD (esz:Nat) (es:List AV) (cap:Option Nat)
 | cG (r:Ref) (off len:Nat) (cap:Option Nat)
 | fsl (esz:Nat) (es:List AV) (cap:Option Nat)
 | ptr (r:Ref) (i j:Nat)
 | iptr (esz:Nat) (es:List AV) (i j:Nat)
 | fn (f:Fn) (first captured:List AV)
 | ifc (t:TypeId) (x:AV)
 | yld (r:Ref)
 | mp (r:Ref)
 | ch (r:Ref)
 | lp (f:FuncId) (nt:Nat) (ps:List Tmp) (assign body:Code) (tm:List AV)
def AV.undef:AV := .v Go.undef
instance:Inhabited AV:=⟨AV.undef⟩
def AV.cells:AV->List AV
 | .agg cs=>cs
 | x=>[x]
def AV.one:AV->Bool
 | .v (.tuple _) | .v (.agg _) | .agg _ | .tup _ | .fsl .. | .lp .. => false
 | _=>true
structure bw where
 esz:Nat
 es:List AV
 arr:Bool
 kq:Bool
deriving Inhabited
def scalar:Value->Bool
 | .bool _ | .int _ _ | .float _ _ | .complex _ _ _ | .string _=>true
 | .pointer none | .slice none 0 0 | .map none | .chan none | .nilFunc | .nilIface=>true
 | .tuple a=>a.isEmpty
 | _=>false
def kg(x:Value):Option AV:=if scalar x then some (.v x) else none
def ofValue:Value->Option AV
 | .agg cs=>(cs.toList.mapM kg).map .agg
 | .func f first captured=>if first.isEmpty&&captured.isEmpty then some (.fn f [] []) else none
 | .tuple a=>if a.isEmpty then some (.v (.tuple #[])) else (a.toList.mapM kg).map .tup
 | .iface t x=>(kg x).map (.ifc t)
 | x=>kg x
def Ks:AV->Option Value
 | .v x=>some x
 | _=>none
def gV:AV->Option Value
 | .v x=>some x
 | .agg cs=>(cs.mapM Ks).map λl => .agg l.toArray
 | _=>none
def bh{b:Type}(P:Program):Sem b->Option b
 | .pure a=>some a
 | .program k=>bh P (k P)
 | .mark _ k=>bh P k
 | _=>none
abbrev aa:=List (Ref × Option bw)
abbrev cX:=Ref->Option bw
def aa.get:aa->Ref->Option bw
 | [],_=>none
 | (r',b) :: h,r=>if r'=r then b else aa.get h r
def aa.gen:aa->Nat->Nat->Nat
 | [],_,_=>0
 | (r',_) :: h,d,t=>if r'.d=d/\r'.t=t then r'.g+1 else aa.gen h d t
def aa.put:aa->Ref->Option bw->aa
 | [],r,b=>[(r,b)]
 | (r',b') :: h,r,b=>if r'=r then (r,b) :: h else (r',b') :: aa.put h r b
def dJ:List AV->Nat->AV
 | [],_=>AV.undef
 | x :: _,0=>x
 | _ :: l,n+1=>dJ l n
def DY:List AV->Nat->AV->List AV
 | [],0,v=>[v]
 | [],n+1,v=>AV.undef :: DY [] n v
 | _ :: l,0,v=>v :: l
 | x :: l,n+1,v=>x :: DY l n v
structure St where
 tm:List AV
 hp:aa
def aH(P:Program)(t:TypeId):Option Nat:=(P.info? t).map (·.size)
def pU(P:Program)(t:TypeId):Option Nat:=(P.info? t).map (·.bytes)
def eI(P:Program)(t:TypeId):Option AV:=((P.info? t).bind (·.zero)).bind ofValue
def dq(P:Program)(t:TypeId):Option Bool:=(P.underlying t).map fun | .struct _ | .array _ _=>true | _=>false
def nT(P:Program)(t:TypeId)(f:Nat):Option (Nat × TypeId):=
 match P.underlying t with
 | some (.struct a)=>(a[f]?).map λx=>(x.offset,x.type)
 | _=>none
def dY(P:Program)(t:TypeId):Option TypeId:=
 match P.underlying t with
 | some (.slice e)=>some e
 | _=>none
def kP(P:Program)(t:TypeId):Option (Nat × TypeId):=
 match P.underlying t with
 | some (.array n e)=>some (n,e)
 | _=>none
def cm(es:List AV)(i j n:Nat)(a:Bool):Option AV:=
 match es[i]? with
 | none=>none
 | some e=>
  if a then (if j+n<=e.cells.length/\0<n then some (.agg ((e.cells.drop j).take n)) else none) else e.cells[j]?
def patch(cs:List AV)(j:Nat)(new:List AV):List AV:=cs.take j++new++cs.drop (j+new.length)
def tQ(e:AV)(j:Nat)(new:List AV):Option AV:=
 match e with
 | .agg cs=>if j+new.length<=cs.length then some (.agg (patch cs j new)) else none
 | _=>match j,new with
  | 0,[x]=>some x
  | _,_=>none
def iJ(es:List AV)(i j:Nat)(new:List AV):Option (List AV):=
 match es[i]? with
 | none=>none
 | some e=>(tQ e j new).map λa=>es.set i a
def view(g:cX):Nat->AV->Option AV
 | 0,_=>none
 | n+1,x=>
  match x with
  | .v x=>some (.v x)
  | .agg cs=>(cs.mapM (view g n)).map .agg
  | .tup cs=>(cs.mapM (view g n)).map .tup
  | .cD esz es cap=>some (.cD esz es cap)
  | .fsl .. => none
  | .iptr esz es i j=>some (.iptr esz es i j)
  | .cG r off len cap=>
   match g r with
   | some b=>if b.arr=true/\off+len<=b.es.length then some (.cD b.esz ((b.es.drop off).take len) cap) else none
   | none=>none
  | .ptr r i j=>
   match g r with
   | some b=>if b.arr then some (.iptr b.esz b.es i j) else (b.es.mapM (view g n)).map λes => .iptr b.esz es i j
   | none=>none
  | .fn f a b=>match a.mapM (view g n),b.mapM (view g n) with
   | some a,some b=>some (.fn f a b)
   | _,_=>none
  | .ifc t x=>(view g n x).map (.ifc t)
  | .yld _ | .mp _ | .ch _ | .lp .. => none
def ao(g:cX):Nat->AV->List Ref
 | 0,_=>[]
 | n+1,x=>
  match x with
  | .agg cs | .tup cs=>cs.flatMap (ao g n)
  | .cG r _ _ _=>[r]
  | .ptr r _ _=>r :: (match g r with | some b=>if b.arr then [] else b.es.flatMap (ao g n) | none=>[])
  | .fn _ a b=>a.flatMap (ao g n)++b.flatMap (ao g n)
  | .ifc _ x=>ao g n x
  | .mp r=>[r]
  | .ch r=>[r]
  | _=>[]
def flat:Nat->AV->Bool
 | 0,_=>false
 | n+1,x=>
  match x with
  | .v _=>true
  | .agg cs | .tup cs=>cs.all (flat n)
  | .ifc _ x=>flat n x
  | .fn _ a b=>a.all (flat n)&&b.all (flat n)
  | _=>false
def cH(H:aa):List Ref->aa
 | []=>H
 | r :: rs=>match H.get r with
  | some b=>cH (H.put r (some { b with kq:=true})) rs
  | none=>cH H rs
def kB(g:cX)(rs:List Ref):Bool:=rs.all λr=>match g r with | some b=>b.kq | none=>false
def depth:Nat:=8
def aK(tm:List AV):Operand->Option AV
 | .tmp t=>some (dJ tm t)
 | .const v=>ofValue v
 | .func f=>some (.fn (.func f) [] [])
 | .global _=>none
def intOf:AV->Option Int
 | .v (.int _ n)=>some n
 | _=>none
def FL:AV->Option Bool
 | .v (.bool b)=>some b
 | _=>none
def bn:Nat:=140737488355328
def cT(g:cX):AV->Option (Nat × List AV)
 | .v (.string s)=>some (1,s.data.toList.map λb => .v (.int .u8 b.toNat))
 | .cD esz es _=>some (esz,es)
 | .cG r off len _=>match g r with
  | some b=>if b.arr=true/\off+len<=b.es.length then some (b.esz,(b.es.drop off).take len) else none
  | none=>none
 | _=>none
def bounds(len:Nat)(cap:Option Nat)(a b c:Option Int):Option (Nat × Nat × Option Nat):=
 match c with
 | some m=>
  match b with
  | some h=>if 0<=a.getD 0/\a.getD 0<=h/\h<=m/\m<=cap.getD len/\h<=len then some ((a.getD 0).toNat,h.toNat,some (m.toNat - (a.getD 0).toNat)) else none
  | none=>none
 | none=>if 0<=a.getD 0/\a.getD 0<=b.getD len/\b.getD len<=len then some ((a.getD 0).toNat,(b.getD len).toNat,cap.map (· - (a.getD 0).toNat)) else none
def mG(tm:List AV):Option Operand->Option (Option Int)
 | none=>some none
 | some o=>match (aK tm o).bind intOf with
  | some n=>some (some n)
  | none=>none
def BI(P:Program)(t:TypeId)(cs:List AV)(a:Nat):Option AV:=
 match dq P t,aH P t with
 | some true,some n=>if a+n<=cs.length then some (.agg ((cs.drop a).take n)) else none
 | some false,_=>cs[a]?
 | _,_=>none
def mc(a:Nat->Option (Nat × Nat))(cells:List AV):List (Nat × AV)->Option (List AV)
 | []=>some cells
 | (i,v) :: rest=>
  match a i with
  | none=>none
  | some (off,size)=>
   if v.cells.length=size/\off+size<=cells.length then mc a (patch cells off v.cells) rest else none
def aq(P:Program)(t:TypeId)(i:Nat):Option (Nat × Nat):=
 match nT P t i with
 | some (off,ft)=>(aH P ft).map λn=>(off,n)
 | none=>none
def placesOf(P:Program)(t:TypeId):Option (List (Nat × Nat)):=
 match P.underlying t with
 | some (.struct a)=>a.toList.mapM λf=>(P.info? f.type).map λi=>(f.offset,i.size)
 | _=>none
def jb(es:List AV):List (Nat × AV)->Option (List AV)
 | []=>some es
 | (i,v) :: rest=>if i<es.length then jb (es.set i v) rest else none
def jc(tm:List AV)(ps:List (Nat × Operand)):Option (List (Nat × AV)):=
 ps.mapM λ(i,o)=>(aK tm o).map λx=>(i,x)
def Ef(P:Program)(a:BinOp)(t:TypeId)(c b:Operand)(x y:Value):Option Value:=
 bh P (do eqGuard a t c b x y;binOp a t x y)
def xz:AV->Option Nat
 | .v (.slice none 0 0)=>some 0
 | .cD _ es _=>some es.length
 | .cG _ _ n _=>some n
 | _=>none
def Ma(f:Value->Value->Sem Value)(P:Program)(args:List AV):Option AV:=
 match args.mapM Ks with
 | some (x :: rest)=>(bh P (rest.foldlM f x)).bind kg
 | _=>none
def byteOf:AV->Option UInt8
 | .v (.int .u8 n)=>some (UInt8.ofNat n.toNat)
 | _=>none
abbrev jI:=Option (AV × List bw)
def kf(x:Option AV):jI:=x.map (·,[])
def IL(d:Operand->Option AV)(c a b:Operand):jI:=
 match (d c).bind FL with
 | some true=>kf (d a)
 | some false=>kf (d b)
 | none=>none
def yl(P:Program)(r:Ref)(e:TypeId):jI:=
 match eI P e,aH P e with
 | some z,some n=>if z.cells.length=n/\z.cells.all AV.one/\0<n then some (.ptr r 0 0,[⟨n,[z],false,false⟩]) else none
 | _,_=>none
def L1(P:Program)(r:Ref)(e:TypeId)(x:Option AV):jI:=
 match x,aH P e with
 | some x,some n=>if x.cells.length=n/\x.cells.all AV.one/\0<n then some (.ptr r 0 0,[⟨n,[x],false,false⟩]) else none
 | _,_=>none
def jD(P:Program)(t:TypeId)(a:Option (List (Nat × AV))):jI:=
 match eI P t,a with
 | some (.agg z),some a=>
  match kP P t with
  | some (_,e)=>match aH P e with
   | some n=>(mc (λi=>some (i * n,n)) z a).map λcs=>(.agg cs,[])
   | none=>none
  | none=>match placesOf P t with
   | some ps=>(mc (ps[·]?) z a).map λcs=>(.agg cs,[])
   | none=>none
 | _,_=>none
def eb(g:cX)(a:List (Nat × AV)):Option (List (Nat × AV)):=a.mapM λ(i,x)=>(view g depth x).map (i,·)
def ck(g:cX)(xs:List AV):List Ref:=xs.flatMap (ao g depth)
def mkSlice(P:Program)(g:cX)(t:TypeId)(n:Nat)(a:List (Nat × AV)):Option bw:=
 match dY P t with
 | none=>none
 | some e=>match eb g a,eI P e,aH P e with
  | some ws,some z,some s=>
   if 0<s/\n * s<=16777216/\z.cells.length=s/\z.cells.all AV.one/\ws.all (λp=>p.2.cells.length=s&&p.2.cells.all AV.one) then
    (jb (List.replicate n z) ws).map λes=>⟨s,es,true,false⟩
   else none
  | _,_,_=>none
def iB(P:Program)(a:Bool)(g:cX)(r:Ref)(t:TypeId)(n:Nat)(c:Option (List (Nat × AV))):jI:=
 match c with
 | none=>none
 | some c=>if kB g (ck g (c.map (·.2))) then (mkSlice P g t n c).map λb=>(if a then (.cD b.esz b.es (some n),[]) else (.cG r 0 n (some n),[b])) else none
def uL(P:Program)(g:cX)(t:TypeId)(a:Option AV):jI:=
 match a,dq P t,aH P t with
 | some (.ptr r' i j),some c,some n=>match g r' with
  | some b=>kf (cm b.es i j n c)
  | none=>none
 | some (.iptr _ es i j),some c,some n=>kf (cm es i j n c)
 | _,_,_=>none
def NX(x:Option AV):jI:=
 match x with
 | some (.ptr r' i j)=>some (.ptr r' i j,[])
 | some (.iptr n es i j)=>some (.iptr n es i j,[])
 | some (.fn (.func f) a b)=>some (.fn (.func f) a b,[])
 | _=>none
def Ml:AV->Bool
 | .cD .. | .cG .. => true
 | _=>false
def oW:AV->Bool
 | .v (.slice none 0 0)=>true
 | _=>false
def bY(P:Program)(a:BinOp)(t:TypeId)(c b:Operand)(x y:Option AV):jI:=
 match x,y with
 | some x,some y=>
  if Ml x&&oW y||Ml y&&oW x then
   match P.underlying t,a with
   | some (.slice _),.eql=>some (.v (.bool false),[])
   | some (.slice _),.neq=>some (.v (.bool true),[])
   | _,_=>none
  else
   match gV x,gV y with
   | some x,some y=>kf ((Ef P a t c b x y).bind kg)
   | _,_=>none
 | _,_=>none
def qUn(P:Program)(a:UnOp)(x:Option AV):jI:=
 kf (((x.bind Ks).bind λx=>bh P (Op.unary a x)).bind kg)
def fS(P:Program)(t:TypeId):Bool:=
 match P.underlying t with
 | some (.slice e)=>(match P.underlying e with | some (.int .u8)=>true | _=>false)
 | _=>false
def isStr(P:Program)(t:TypeId):Bool:=match P.underlying t with | some .string=>true | _=>false
def gB(P:Program)(g:cX)(r:Ref)(a c:TypeId)(x:Option AV):jI:=
 match x with
 | some (.v (.slice none 0 0))=>if fS P a&&isStr P c then some (.v (.string .empty),[]) else none
 | some (.v (.string s))=>
  if isStr P a&&isStr P c then some (.v (.string s),[])
  else if isStr P a&&fS P c then
   (if s.size<=bn then some (.cG r 0 s.size none,[⟨1,s.data.toList.map λb => .v (.int .u8 b.toNat),true,false⟩]) else none)
  else none
 | some (.v x)=>kf ((bh P (Go.convert a c x)).bind kg)
 | some x=>if fS P a&&isStr P c then
  match cT g x with
  | some (_,es)=>(es.mapM byteOf).map λl=>(.v (.string ⟨l.toArray⟩),[])
  | none=>none
  else if a == c&&fS P a then
   match x with
   | .cG r' _ _ _=>(match g r' with
    | some b=>if b.esz=1 then some (x,[]) else none
    | none=>none)
   | _=>none
  else none
 | none=>none
def tX(P:Program)(t:TypeId)(x:Option AV):jI:=
 match P.underlying t with
 | some (.interface _)=>none
 | some _=>x.map λx=>(.ifc t x,[])
 | none=>none
def gY(f:Fn)(first captured:Option (List AV)):jI:=
 match first,captured with
 | some a,some b=>some (.fn f a b,[])
 | _,_=>none
def Gb(P:Program)(r:Ref)(t:TypeId)(l c:Option AV):jI:=
 match dY P t,l.bind intOf,c.bind intOf with
 | some e,some l,some c=>match eI P e,aH P e,pU P e with
  | some z,some s,some b=>
   if 0<=l/\l<=c/\c * b<=bn/\c<=9223372036854775807/\0<s/\z.cells.length=s/\z.cells.all AV.one then some (.cG r 0 l.toNat none,[⟨s,List.replicate l.toNat z,true,false⟩]) else none
  | _,_,_=>none
 | _,_,_=>none
def ja(P:Program)(g:cX)(t:TypeId)(x:Option AV)(e d a:Option (Option Int)):jI:=
 match e,d,a with
 | some e,some d,some a=>
  match x with
  | some (.v (.slice none 0 0))=>if ((dY P t).bind (aH P)).isSome then (bounds 0 (some 0) e d a).map λ_=>(.v (.slice none 0 0),[]) else none
  | some (.v (.string s))=>if isStr P t&&a.isNone then (bounds s.size none e d none).map λ(l,h,_)=>(.v (.string (s.extract l h)),[]) else none
  | some (.cD esz es cap)=>if (dY P t).bind (aH P)=some esz then (bounds es.length cap e d a).map λ(l,h,c)=>(.cD esz ((es.drop l).take (h - l)) c,[]) else none
  | some (.cG r' off len cap)=>(match g r' with
   | some b=>if (dY P t).bind (aH P)=some b.esz then (bounds len cap e d a).map λ(l,h,c)=>(.cG r' (off+l) (h - l) c,[]) else none
   | none=>none)
  | _=>none
 | _,_,_=>none
def xk(P:Program)(g:cX)(t:TypeId)(x:Option AV)(a c d:Option (Option Int)):jI:=
 match a,c,d,x with
 | some a,some c,some none,some (.cG r' off len cap)=>(match g r' with
  | some b=>if (dY P t).bind (aH P)=some b.esz/\0<=a.getD 0/\a.getD 0<=c.getD len/\c.getD len<=cap.getD len then
   some (.cG r' (off+(a.getD 0).toNat) ((c.getD len).toNat - (a.getD 0).toNat) (cap.map (· - (a.getD 0).toNat)),[]) else none
  | none=>none)
 | _,_,_,_=>none
def NW(P:Program)(g:cX)(t:TypeId)(args:List AV):jI:=
 match args,dY P t with
 | [.cG r _ _ _,.cG r' _ _ _],some e=>(match g r,g r',aH P e with
  | some b,some b',some z=>if r≠r'/\1<b.esz/\b.esz=z/\b'.esz=z then some (.v (.bool false),[]) else none
  | _,_,_=>none)
 | _,_=>none
def Gd(tz:FuncId->Option TypeId)(a:Bool)(f:Operand):Option TypeId:=match a,f with
 | false,.func fi=>tz fi
 | _,_=>none
@[simp] theorem Ao(tz:FuncId->Option TypeId)(f:Operand):Gd tz true f=none:=by cases f<;>rfl
def jW(P:Program)(t:TypeId)(x:Option AV)(f:Nat):jI:=
 match aq P t f with
 | some (off,s)=>if 0<s then
  match x with
  | some (.ptr r' i j)=>some (.ptr r' i (j+off),[])
  | some (.iptr n es i j)=>some (.iptr n es i (j+off),[])
  | _=>none
  else none
 | none=>none
def yj(P:Program)(t:TypeId)(x:Option AV)(f:Nat):jI:=
 match nT P t f,x with
 | some (off,ft),some (.agg cs)=>kf (BI P ft cs off)
 | _,_=>none
def ep(P:Program)(g:cX)(t:TypeId)(x a:Option AV):jI:=
 match a.bind intOf with
 | some k=>
  match dY P t with
  | some e=>match x,aH P e with
   | some (.cD esz es _),some s=>if 0<=k/\k<es.length/\s=esz then some (.iptr esz es k.toNat 0,[]) else none
   | some (.cG r' off len _),some s=>(match g r' with
    | some b=>if 0<=k/\k<len/\s=b.esz then some (.ptr r' (off+k.toNat) 0,[]) else none
    | none=>none)
   | _,_=>none
  | none=>match kP P t with
   | some (n,e)=>match x,aH P e with
    | some (.ptr r' i j),some s=>if 0<=k/\k<n then some (.ptr r' i (j+k.toNat * s),[]) else none
    | some (.iptr esz es i j),some s=>if 0<=k/\k<n then some (.iptr esz es i (j+k.toNat * s),[]) else none
    | _,_=>none
   | none=>none
 | none=>none
def sx(P:Program)(t:TypeId)(x a:Option AV):jI:=
 match a.bind intOf,x with
 | some k,some (.agg cs)=>(match kP P t with
  | some (n,e)=>(match aH P e with
   | some s=>if 0<=k/\k<n then kf (BI P e cs (k.toNat * s)) else none
   | none=>none)
  | none=>none)
 | some k,some (.v (.string s))=>if isStr P t/\0<=k then kf ((s[k.toNat]?).map λb => .v (.int .u8 b.toNat)) else none
 | _,_=>none
def uv(P:Program)(x:Option AV)(a:TypeId)(ok:Bool):jI:=
 match P.underlying a,x with
 | some (.interface _),_=>none
 | some _,some (.ifc t y)=>
  if t=a then some ((if ok then .tup [y,.v (.bool true)] else y),[])
  else if ok then (eI P a).map λz=>(.tup [z,.v (.bool false)],[]) else none
 | some _,some (.v .nilIface)=>if ok then (eI P a).map λz=>(.tup [z,.v (.bool false)],[]) else none
 | _,_=>none
def uM(x:Option AV)(i:Nat):jI:=
 match x with
 | some (.tup a)=>kf (a[i]?)
 | _=>none
def bg(ents:List AV):bw:=⟨0,.v (.bool true) :: ents,false,false⟩
def kn(g:cX)(r:Ref):Option (List AV):=match g r with
 | some ⟨0,.v (.bool true) :: ents,false,_⟩=>some ents
 | _=>none
def Ju(cap:Nat)(b:Bool)(a:List AV):bw:=⟨0,.v (.bool false) :: .v (.int .i64 cap) :: .v (.bool b) :: a,false,false⟩
def W5(g:cX)(r:Ref):Option (Nat × Bool × List AV):=match g r with
 | some ⟨0,.v (.bool false) :: .v (.int .i64 cap) :: .v (.bool a) :: buf,false,_⟩=>some (cap.toNat,a,buf)
 | _=>none
def Nq(P:Program)(t:TypeId):Option TypeId:=match P.underlying t with
 | some (.chan _ e)=>some e
 | _=>none
def J0(P:Program)(t:TypeId):Option (TypeId × TypeId):=match P.underlying t with
 | some (.map k e)=>some (k,e)
 | _=>none
def BT:AV->Option Value
 | .tup [k,_]=>gV k
 | _=>none
def Jq:AV->Option AV
 | .tup [_,v]=>some v
 | _=>none
def Ar(P:Program)(a:Bool)(b:TypeId)(k:Value)(c:List Value):Option (Option Nat):=
 match bh P (Instr.checkKey a 10000 b k) with
 | some _=>(bh P (Instr.findKey b k (c.map λx=>⟨x,Go.undef,0⟩))).map λo=>o.map (·.1)
 | none=>none
def ff(P:Program)(g:cX)(t:TypeId)(x k:Option AV)(ok:Bool):jI:=
 match J0 P t,x,k.bind gV with
 | some (c,et),some (.mp r),some b=>(match kn g r with
  | some ents=>(match ents.mapM BT with
   | some a=>(match Ar P a.isEmpty c b a with
    | some (some i)=>(ents[i]?.bind Jq).map λv=>((if ok then .tup [v,.v (.bool true)] else v),[])
    | some none=>(eI P et).map λz=>((if ok then .tup [z,.v (.bool false)] else z),[])
    | none=>none)
   | none=>none)
  | none=>none)
 | _,_,_=>none
def xl(P:Program)(g:cX)(t:Option TypeId)(r:Ref):jI:=
 match t.bind (J0 P),kn g r with
 | some _,some ents=>some (.v (.int .i64 ents.length),[])
 | _,_=>none
def RB:Value->Value->Bool
 | .bool a,.bool b=>a == b
 | .int k n,.int k' d=>decide (k=k')&&decide (n=d)
 | .string s,.string t=>decide (s=t)
 | .slice none a b,.slice none c b'=>Nat.beq a c&&Nat.beq b b'
 | .nilFunc,.nilFunc=>true
 | .nilIface,.nilIface=>true
 | _,_=>false
def K9:Nat->AV->AV->Bool
 | 0,_,_=>false
 | n+1,x,y=>
  match x,y with
  | .v u,.v v=>RB u v
  | .agg cs,.agg ds=>Nat.beq cs.length ds.length&&(cs.zip ds).all λp=>K9 n p.1 p.2
  | .cD z es c,.cD b a d=>Nat.beq z b&&decide (c=d)&&Nat.beq es.length a.length&&(es.zip a).all λp=>K9 n p.1 p.2
  | _,_=>false
def KG(r r':Ref):Bool:=Nat.beq r.t r'.t&&Nat.beq r.g r'.g&&Nat.beq r.d r'.d&&Nat.beq r.k r'.k
def CQ:Nat->AV->AV->Bool
 | 0,_,_=>false
 | n+1,x,y=>
  match x,y with
  | .v u,.v v=>RB u v
  | .agg cs,.agg ds=>Nat.beq cs.length ds.length&&(cs.zip ds).all λp=>CQ n p.1 p.2
  | .tup cs,.tup ds=>Nat.beq cs.length ds.length&&(cs.zip ds).all λp=>CQ n p.1 p.2
  | .cD z es c,.cD h d g=>Nat.beq z h&&decide (c=g)&&Nat.beq es.length d.length&&(es.zip d).all λp=>CQ n p.1 p.2
  | .cG r a b c,.cG r' e b' g=>KG r r'&&Nat.beq a e&&Nat.beq b b'&&decide (c=g)
  | .ptr r i j,.ptr r' l o=>KG r r'&&Nat.beq i l&&Nat.beq j o
  | .mp r,.mp r'=>KG r r'
  | .ch r,.ch r'=>KG r r'
  | .fn (.func f) a b,.fn (.func m) e b'=>Nat.beq f m&&(Nat.beq a.length e.length&&(a.zip e).all λp=>CQ n p.1 p.2)&&(Nat.beq b.length b'.length&&(b.zip b').all λp=>CQ n p.1 p.2)
  | .ifc t x,.ifc t' k=>Nat.beq t t'&&CQ n x k
  | _,_=>false
def ME(k k':bw):Bool:=Nat.beq k.esz k'.esz&&k.arr == k'.arr&&k.kq == k'.kq&&Nat.beq k.es.length k'.es.length&&(k.es.zip k'.es).all λp=>CQ 8 p.1 p.2
def Jc(H H':aa):Bool:=H.all λp=>match H.get p.1 with
 | none=>true
 | some k=>match H'.get p.1 with
  | none=>false
  | some k'=>ME k k'
def Wt(xs ys:List AV):Bool:=Nat.beq xs.length ys.length&&(xs.zip ys).all λp=>K9 8 p.1 p.2
def Mb:List (FuncId × List AV × AV)->FuncId->List AV->Option AV
 | [],_,_=>none
 | (g,xs,y) :: T,f,args=>if Nat.beq g f&&Wt xs args then some y else Mb T f args
def az(r:Ref):Nat->AV->List bw->AV × List bw
 | 0,x,a=>(x,a)
 | n+1,x,a=>
  match x with
  | .fsl esz es cap=>if esz=0 then (.mp { r with k:=a.length},a++[⟨0,es,false,false⟩]) else (.cG { r with k:=a.length} 0 es.length cap,a++[⟨esz,es,true,false⟩])
  | .agg cs=>let (ys,a):=cs.foldl (λ(p:List AV × List bw) c=>let (y,a):=az r n c p.2;(p.1++[y],a)) ([],a);(.agg ys,a)
  | .tup cs=>let (ys,a):=cs.foldl (λ(p:List AV × List bw) c=>let (y,a):=az r n c p.2;(p.1++[y],a)) ([],a);(.tup ys,a)
  | .ifc t x=>let (y,a):=az r n x a;(.ifc t y,a)
  | x=>(x,a)
inductive yD where
 | fn (f:FuncId)
 | yld (r:Ref)
def u6(m:Nat):Bool:=m == 1||m == 3
def Eg:Nat->AV->Bool
 | 0,_=>false
 | n+1,x=>
  match x with
  | .v _=>true
  | .agg cs | .tup cs=>cs.all (Eg n)
  | .fsl z es _=>z != 0&&es.all (flat depth)
  | .cD _ es _=>es.isEmpty
  | .ifc _ x=>Eg n x
  | _=>false
structure MK where
 f:aa->aa->Bool
 ok : ∀H H',f H H'=true ->∀q k,H.get q=some k->H'.get q=some k
def Wg:MK:=⟨λ_ _=>false,λ_ _ h=>by cases h⟩
structure Env where
 P:Program
 strict:Oper->Bool
 apart:Array Oper->List (Tmp × Tmp)
 mode:FuncId->Nat
 allowed:FuncId->Bool
 spec:FuncId->List AV->Option AV
 ok:Array Oper->Bool:=λ_=>true
 kq:Oper->Bool:=λ_=>false
 wide:Oper->Bool:=λ_=>false
 tz:FuncId->Option TypeId:=λ_=>none
 thrSpec:FuncId->List AV->aa->Option (AV × aa):=λ_ _ _=>none
 sm:MK:=Wg
def kJ(E:Env)(pc:FuncId->List AV->Option AV)(g:cX)(r:Ref)(f:Option AV)(args:List AV):jI:=
 match f with
 | some (.fn (.func fi) first captured)=>
  if E.mode fi=2 then none else
  match (first++args++captured).mapM (view g depth) with
  | some xs=>match pc fi xs with
   | some y=>if flat depth y||kB g (ck g (first++args++captured))||(E.mode fi == 3&&Eg depth y) then some (az r depth y []) else none
   | none=>none
  | none=>none
 | _=>none
def J2(P:Program)(t:Option TypeId)(x:AV):jI:=
 match t with
 | none=>none
 | some t=>match kP P t with
  | some (n,_)=>some (.v (.int .i64 n),[])
  | none=>if isStr P t then (match x with | .v (.string s)=>some (.v (.int .i64 s.size),[]) | _=>none)
   else if (dY P t).isSome then (xz x).map λn=>(.v (.int .i64 n),[]) else none
def ql(P:Program)(g:cX)(e:TypeId)(x:AV):Option (Nat × List AV):=
 match x with
 | .v (.slice none 0 0)=>(aH P e).map λz=>(z,[])
 | .v (.int _ n)=>match eI P e,aH P e with
  | some w,some z=>if 0<=n/\n<=bn/\w.cells.length=z/\w.cells.all AV.one then some (z,List.replicate n.toNat w) else none
  | _,_=>none
 | x=>cT g x
def isNum:AV->Bool
 | .v (.int _ _)=>true
 | _=>false
def isInt(P:Program)(t:TypeId):Bool:=match P.underlying t with | some (.int _)=>true | _=>false
def jL(P:Program)(g:cX)(r:Ref)(t t':Option TypeId)(s x:AV):jI:=
 match t.bind (dY P) with
 | none=>none
 | some e=>
  if (t'.bind P.underlying).isNone\/(t'.map (isInt P)).getD false≠isNum x then none else
  match aH P e,pU P e,eI P e,ql P g e x with
  | some z,some a,some d,some (c,new)=>
   if c≠z\/z=0\/a=0\/d.cells.length≠z then none else
   match s with
   | .v (.slice none 0 0)=>if new=[] then some (s,[]) else if new.length * a<=bn then some (.cG r 0 new.length none,[⟨z,new,true,false⟩]) else none
   | .cD n es cap=>if n≠z then none else if new=[] then some (s,[]) else
    match cap with
    | some k=>if k<es.length+new.length/\(es.length+new.length) * a<=bn then some (.cG r 0 (es.length+new.length) none,[⟨z,es++new,true,false⟩]) else none
    | none=>none
   | .cG r' off len cap=>(match g r' with
    | some b=>if b.esz≠z\/b.arr=false then none else if new=[] then some (s,[]) else
     (match cap with
     | some k=>if off+len<=b.es.length/\k<len+new.length/\(len+new.length) * a<=bn then
      some (.cG r 0 (len+new.length) none,[⟨z,(b.es.drop off).take len++new,true,false⟩]) else none
     | none=>none)
    | none=>none)
   | _=>none
  | _,_,_,_=>none
def abK(P:Program)(t:Option TypeId)(x:AV):jI:=
 match t.bind (dY P),x with
 | some _,.v (.slice none 0 0)=>some (.v (.int .i64 0),[])
 | some _,.cD _ _ (some k)=>some (.v (.int .i64 k),[])
 | some _,.cG _ _ _ (some k)=>some (.v (.int .i64 k),[])
 | _,_=>none
def cN(P:Program)(a:Bool)(g:cX)(r:Ref)(b:Builtin)(c:Array TypeId)(args:List AV):jI:=
 match b,args with
 | .len,[.mp r']=>if a then none else xl P g c[0]? r'
 | .len,[x]=>J2 P c[0]? x
 | .min,args=>kf (Ma Builtin.min2 P args)
 | .max,args=>kf (Ma Builtin.max2 P args)
 | .append,[s,x]=>jL P g r c[0]? c[1]? s x
 | .cap,[x]=>abK P c[0]? x
 | _,_=>none
def BQ(b:Bool)(a:List bw):List bw:=if b then a.map (λk => { k with kq:=true}) else a
def cz(E:Env)(pc:FuncId->List AV->Option AV)(d:Bool)(g:cX)(tm:List AV)(r:Ref)(o:Oper):jI:=
 match o.op with
 | .move x | .assign x=>kf (aK tm x)
 | .pick c a b=>IL (aK tm) c a b
 | .alloc e=>yl E.P r e
 | .box e x=>L1 E.P r e (aK tm x)
 | .build t ps=>jD E.P t (jc tm ps.toList)
 | .buildSlice t n ps=>iB E.P (d && !E.strict o) g r t n (jc tm ps.toList)
 | .load t a=>uL E.P g t (aK tm a)
 | .nilCheck x=>NX (aK tm x)
 | .binOp op t v q _=>bY E.P op t v q (aK tm v) (aK tm q)
 | .unOp op _ x=>qUn E.P op (aK tm x)
 | .convert src dst x=>gB E.P g r src dst (aK tm x)
 | .makeInterface t x=>tX E.P t (aK tm x)
 | .makeFunc f first captured=>gY f (first.toList.mapM (aK tm)) (captured.toList.mapM (aK tm))
 | .makeSlice t l c=>Gb E.P r t (aK tm l) (aK tm c)
 | .makeMap _ none=>some (.mp r,[bg []])
 | .lookup t x k ok=>ff E.P g t (aK tm x) (aK tm k) ok
 | .slice t x u m j=>cond (E.wide o && !d) (xk E.P g t (aK tm x) (mG tm u) (mG tm m) (mG tm j)) (ja E.P g t (aK tm x) (mG tm u) (mG tm m) (mG tm j))
 | .fieldAddr t x f=>jW E.P t (aK tm x) f
 | .field t x f=>yj E.P t (aK tm x) f
 | .indexAddr t x h=>ep E.P g t (aK tm x) (aK tm h)
 | .index t x h=>sx E.P t (aK tm x) (aK tm h)
 | .typeAssert x _ want ok=>uv E.P (aK tm x) want ok
 | .extract x i=>uM (aK tm x) i
 | .call c=>
  match c.args.toList.mapM (aK tm) with
  | none=>none
  | some args=>
   match c.callee with
   | .value f=>(match Gd E.tz d f with
    | some t=>NW E.P g t args
    | none=>(kJ E pc g r (aK tm f) args).map λp=>(p.1,BQ (E.kq o) p.2))
   | .invoke _ _=>none
   | .builtin b=>cN E.P (d&&(E.strict o || !(match c.args.toList with | [.tmp _]=>true | _=>false))) g r b c.argTypes args
 | _=>none
def keyed(r:Ref):Nat->List bw->aa->aa
 | _,[],g=>g
 | k,b :: a,g=>keyed r (k+1) a (({ r with k:=k},some b) :: g)
abbrev dz:=Option (AV × aa)
def nS(P:Program)(H:aa)(t:TypeId)(a x:Option AV):dz:=
 match a,x,aH P t with
 | some (.ptr r' i j),some x,some n=>
  match H.get r' with
  | some b=>
   if x.cells.length=n/\x.cells.all AV.one/\b.kq=false then
    (if b.arr=true then
     match view H.get depth x with
     | some y=>if r'∈ao H.get depth x then none else if y.cells.all AV.one=true then (iJ b.es i j y.cells).map λes=>(AV.undef,(cH H (ao H.get depth x)).put r' (some { b with es})) else none
     | none=>none
    else (iJ b.es i j x.cells).map λes=>(AV.undef,H.put r' (some { b with es})))
   else none
  | none=>none
 | _,_,_=>none
def kH(P:Program)(H:aa)(r:Ref)(t:TypeId)(n:Nat)(a:Option (List (Nat × AV))):dz:=
 match a with
 | none=>none
 | some a=>(mkSlice P H.get t n a).map λb=>(.cG r 0 n (some n),(r,some b) :: cH H (ck H.get (a.map (·.2))))
def nC(E:Env)(pc:FuncId->List AV->Option AV)(tc:yD->List AV->aa->dz)(H:aa)(r:Ref)(f:Option AV)(args:List AV):dz:=
 match f with
 | some (.fn (.func g) first captured)=>
  if E.mode g=2 then tc (.fn g) (first++args++captured) H else
  match (first++args++captured).mapM (view H.get depth) with
  | some xs=>(pc g xs).map λy=>((az r depth y []).1,keyed r 0 (az r depth y []).2 (cH H (ck H.get (first++args++captured))))
  | none=>none
 | some (.yld q)=>tc (.yld q) args H
 | _=>none
def re(b:Bool)(sm:MK)(H:aa)(x:dz):dz:=match b,x with
 | true,some (y,H')=>if flat depth y&&(Jc H H'||sm.f H H') then some (y,H) else none
 | _,x=>x
def m6(P:Program)(H:aa)(t t':Option TypeId)(s x:AV):dz:=
 match t.bind (dY P) with
 | none=>none
 | some e=>
  if (t'.bind P.underlying).isNone\/(t'.map (isInt P)).getD false≠isNum x then none else
  match aH P e,pU P e,eI P e,ql P H.get e x with
  | some z,some a,some f,some (c,new)=>
   if c≠z\/z=0\/a=0\/new=[]\/f.cells.length≠z then none else
   match s with
   | .cG r' off len none=>(match H.get r' with
    | some b=>if off=0/\b.arr=true/\b.esz=z/\len=b.es.length/\(len+new.length) * a<=bn then
     some (.cG ⟨r'.d,r'.t,H.gen r'.d r'.t,0⟩ 0 (len+new.length) none,(⟨r'.d,r'.t,H.gen r'.d r'.t,0⟩,some ⟨z,b.es++new,true,b.kq⟩) :: H.put r' none) else none
    | none=>none)
   | _=>none
  | _,_,_,_=>none
def Na(P:Program)(H:aa)(t:Option TypeId)(a x:AV):dz:=
 match t.bind (dY P) with
 | none=>none
 | some e=>match aH P e with
  | none=>none
  | some z=>match (if oW x then some (z,[]) else cT H.get x) with
   | none=>none
   | some (c,src)=>if c≠z\/z=0 then none else
    match a with
    | .v (.slice none 0 0)=>some (.v (.int .i64 0),H)
    | .cG r' off len _=>(match H.get r' with
     | some b=>
      if b.arr=true/\b.esz=z/\b.kq=false/\off+len<=b.es.length then
       some (.v (.int .i64 (Nat.min src.length len:Nat)),H.put r' (some { b with es:=b.es.take off++src.take (Nat.min src.length len)++b.es.drop (off+Nat.min src.length len)})) else none
     | none=>none)
    | _=>none
def HM(P:Program)(H:aa)(t:Option TypeId)(c x:AV):dz:=
 match (t.bind (dY P)).bind (aH P),c,x with
 | some z,.cG r off len _,.cG r2 a Bk _=>(match H.get r,H.get r2 with
  | some b,some b2=>
   if b.arr=true/\b2.arr=true/\b.esz=z/\b2.esz=z/\0<z/\b.kq=false/\off<=b.es.length/\a+Nat.min Bk len<=b2.es.length then
    some (.v (.int .i64 (Nat.min Bk len:Nat)),H.put r (some { b with es:=b.es.take off++(b2.es.drop a).take (Nat.min Bk len)++b.es.drop (off+Nat.min Bk len)})) else none
  | _,_=>none)
 | _,_,_=>none
def dP(P:Program)(H:aa)(t:TypeId)(m k x:Option AV):dz:=
 match J0 P t,m,k,x with
 | some (c,_),some (.mp r),some k,some x=>(match gV k,kn H.get r with
  | some a,some ents=>(match ents.mapM BT with
   | some b=>(match Ar P false c a b with
    | some (some i)=>if ((b[i]?).map λd=>Instr.sameBits 10000 d a)=some true then some (AV.undef,H.put r (some (bg (ents.set i (.tup [k,x]))))) else none
    | some none=>some (AV.undef,H.put r (some (bg (ents++[.tup [k,x]]))))
    | none=>none)
   | none=>none)
  | _,_=>none)
 | _,_,_,_=>none
def iY(P:Program)(H:aa)(t:TypeId)(m k:Option AV):dz:=
 match J0 P t,m,k with
 | some (c,et),some (.mp r),some k=>(match gV k,kn H.get r with
  | some a,some ents=>(match ents.mapM BT with
   | some b=>(match Ar P false c a b with
    | some (some i)=>if ((b[i]?).map λd=>Instr.sameBits 10000 d a)=some true then (ents[i]?.bind Jq).map λv=>(.tup [v,.v (.int .i64 i)],H.put r (some (bg (ents.set i (.tup [k,v]))))) else none
    | some none=>(eI P et).map λz=>(.tup [z,.v (.int .i64 ents.length)],H.put r (some (bg (ents++[.tup [k,z]]))))
    | none=>none)
   | none=>none)
  | _,_=>none)
 | _,_,_=>none
def fR(H:aa)(m s x:Option AV):dz:=
 match m,s,x with
 | some (.mp r),some (.v (.int _ n)),some x=>(match kn H.get r with
  | some ents=>if 0<=n then (match ents[n.toNat]? with
   | some (.tup [k,_])=>some (AV.undef,H.put r (some (bg (ents.set n.toNat (.tup [k,x])))))
   | _=>none) else none
  | none=>none)
 | _,_,_=>none
def B6(P:Program)(H:aa)(r:Ref)(t:TypeId)(n:Option AV):dz:=
 match n,(Nq P t).bind (pU P) with
 | some (.v (.int _ n)),some b=>if 0<=n/\n<=1000000/\b<=1000000 then some (.ch r,keyed r 0 [Ju n.toNat false []] H) else none
 | _,_=>none
def HJ(H:aa)(c x:Option AV):dz:=
 match c,x with
 | some (.ch r),some x=>(match W5 H.get r with
  | some (cap,false,buf)=>if buf.length<cap/\flat depth x=true then some (AV.undef,H.put r (some (Ju cap false (buf++[x])))) else none
  | _=>none)
 | _,_=>none
def acF(ok:Bool)(x:AV)(b:Bool):AV:=if ok then .tup [x,.v (.bool b)] else x
def Kp(P:Program)(H:aa)(t:TypeId)(c:Option AV)(ok:Bool):dz:=
 match c,(Nq P t).bind (eI P) with
 | some (.ch r),some z=>(match W5 H.get r with
  | some (cap,a,x :: buf)=>some (acF ok x true,H.put r (some (Ju cap a buf)))
  | some (_,true,[])=>some (acF ok z false,H)
  | _=>none)
 | _,_=>none
def Sh:Op->Bool
 | .send .. | .recv .. => true
 | _=>false
def evalW(E:Env)(pc:FuncId->List AV->Option AV)(tc:yD->List AV->aa->dz)(H:aa)(tm:List AV)(r:Ref)(o:Oper):dz:=
 match o.op with
 | .store t a x=>nS E.P H t (aK tm a) (aK tm x)
 | .mapUpdate t m k x | .insert t m k x=>dP E.P H t (aK tm m) (aK tm k) (aK tm x)
 | .mapEntry t m k=>iY E.P H t (aK tm m) (aK tm k)
 | .entryStore _ m s x=>fR H (aK tm m) (aK tm s) (aK tm x)
 | .buildSlice t n ps=>kH E.P H r t n (jc tm ps.toList)
 | .makeChan t n=>B6 E.P H r t (aK tm n)
 | .send c x=>HJ H (aK tm c) (aK tm x)
 | .recv t c ok=>Kp E.P H t (aK tm c) ok
 | .call c=>
  match c.args.toList.mapM (aK tm) with
  | none=>none
  | some args=>
   match c.callee with
   | .value f=>re (E.kq o) E.sm H (nC E pc tc H r (aK tm f) args)
   | .invoke _ _=>none
   | .builtin b=>
    match b,args with
    | .append,[s,x]=>m6 E.P H c.argTypes[0]? c.argTypes[1]? s x
    | .copy,[dst,x]=>cond (E.wide o) (HM E.P H c.argTypes[0]? dst x) (Na E.P H c.argTypes[0]? dst x)
    | _,_=>none
 | _=>none
def wanted(ops:Array Oper)(tm:List AV)(o:Oper):Option Bool:=
 match o.guard with
 | none=>some true
 | some (j,want)=>
  match (ops[j]?).bind (·.dst) with
  | some t=>(match dJ tm t with
   | .v (.bool b)=>some (b == want)
   | .v (.tuple a)=>if a.isEmpty then some false else none
   | _=>none)
  | none=>some false
def wOp(E:Env):Op->Bool
 | .store .. | .mapUpdate .. | .insert .. | .mapEntry .. | .entryStore .. => true
 | .call c=>match c.callee with
  | .builtin .append | .builtin .copy=>true
  | .value (.func g)=>E.mode g == 2
  | .value (.tmp _)=>true
  | _=>false
 | _=>false
def Cv:Op->Bool
 | .buildSlice .. => true
 | _=>false
def jC(E:Env)(o:Oper):Bool:=(!E.strict o&&wOp E o.op)||(E.kq o&&Cv o.op)
def dt(nt:Nat)(tm:List AV)(a:Option Tmp)(x:AV):Option (List AV):=
 match a with
 | none=>some tm
 | some d=>if d<nt then some (DY tm d x) else none
def evalOp(E:Env)(pc:FuncId->List AV->Option AV)(tc:yD->List AV->aa->dz)(nt dep:Nat)(a:Bool)(ops:Array Oper)(o:Oper)(st:St):Option St:=
 match wanted ops st.tm o with
 | none=>none
 | some false=>(dt nt st.tm o.dst AV.undef).map λtm => { st with tm}
 | some true=>
  match cz E pc a st.hp.get st.tm ⟨dep,o.dst.getD 0,st.hp.gen dep (o.dst.getD 0),0⟩ o with
  | some (x,b)=>(dt nt st.tm o.dst x).map λtm=>⟨tm,keyed ⟨dep,o.dst.getD 0,st.hp.gen dep (o.dst.getD 0),0⟩ 0 b st.hp⟩
  | none=>
   if a && !jC E o then none else
   match evalW E pc tc st.hp st.tm ⟨dep,o.dst.getD 0,st.hp.gen dep (o.dst.getD 0),0⟩ o with
   | some (x,H)=>(dt nt st.tm o.dst x).map λtm=>⟨tm,H⟩
   | none=>none
def nU(E:Env)(pc:FuncId->List AV->Option AV)(tc:yD->List AV->aa->dz)(nt dep:Nat)(a:Bool)(ops:Array Oper):List Oper->St->Option St
 | [],st=>some st
 | o :: rest,st=>match evalOp E pc tc nt dep a ops o st with
  | some b=>nU E pc tc nt dep a ops rest b
  | none=>none
def lW(P:Program)(st:St):ResultVar->Option AV
 | .tmp t=>some (dJ st.tm t)
 | .cell a t=>match dJ st.tm a,dq P t,aH P t with
  | .ptr r i j,some g,some n=>match st.hp.get r with
   | some b=>cm b.es i j n g
   | none=>none
  | _,_,_=>none
def zi(P:Program)(fn:Func)(st:St):Option AV:=
 match fn.results.toList.mapM (lW P st) with
 | some []=>some (.v (.tuple #[]))
 | some [x]=>some x
 | some xs=>some (.tup xs)
 | none=>none
def codeOk(ok:Array Oper->Bool):Code->Bool
 | .region _ ops draw => !draw||ok ops
 | .seq a b | .cond _ a b=>codeOk ok a&&codeOk ok b
 | .block _ c | .loop c | .scope c=>codeOk ok c
 | .rangeFunc _ _ a b=>codeOk ok a&&codeOk ok b
 | _=>true
def o3(ok:Array Oper->Bool):Item->Bool
 | .code c | .inLoop c=>codeOk ok c
 | _=>true
def wE(E:Env)(run:Option Ref->Nat->Nat->List Item->St->Option St)(dep:Nat)(f:FuncId)(args:List AV)(H:aa):Option (AV × aa):=
 if E.allowed f then
  match E.P.funcs[f]? with
  | some fn=>match fn.body with
   | some c=>if args.length<=fn.ntmps then
    match run none fn.ntmps dep [.code c] ⟨args,H⟩ with
    | some st=>(zi E.P fn st).map (·,st.hp)
    | none=>none
    else none
   | none=>none
  | none=>none
 else none
def dc(g:cX):Nat->AV->Option AV
 | 0,_=>none
 | n+1,x=>
  match x with
  | .agg cs=>(cs.mapM (dc g n)).map .agg
  | .tup cs=>(cs.mapM (dc g n)).map .tup
  | .ifc t x=>(dc g n x).map (.ifc t)
  | .cG r 0 len cap=>
   match g r with
   | some b=>if b.arr=true/\len<=b.es.length then some (if b.kq then .cD b.esz (b.es.take len) cap else .fsl b.esz (b.es.take len) cap) else none
   | none=>none
  | .mp r=>
   match kn g r with
   | some ents=>if ents.all (flat depth) then some (.fsl 0 (.v (.bool true) :: ents) none) else none
   | none=>none
  | x=>view g (n+1) x
def cS(E:Env)(run:Option Ref->Nat->Nat->List Item->St->Option St)(f:FuncId)(args:List AV):Option AV:=
 match E.spec f args with
 | some y=>some y
 | none=>match wE E run 0 f args [] with
  | some (x,H)=>if u6 (E.mode f)=true then (if (ao H.get depth x).Nodup then dc H.get depth x else none) else view H.get depth x
  | none=>none
def kV(st:Nat)(a:AV):bw:=⟨0,[.v (.int .i64 st),a],false,false⟩
def As(H:aa)(r:Ref):Option (Nat × AV):=match H.get r with
 | some ⟨0,[.v (.int .i64 st),inf],_,_⟩=>some (st.toNat,inf)
 | _=>none
def yh(tm:List AV):List Tmp->List AV->List AV
 | t :: a,x :: xs=>yh (DY tm t x) a xs
 | _,_=>tm
def Ci(E:Env)(run:Option Ref->Nat->Nat->List Item->St->Option St)(dep:Nat)(r:Ref)(args:List AV)(H:aa):Option (AV × aa):=
 match As H r with
 | some (0,.lp f nt ps assign body tm)=>
  if args.length=ps.length/\ps.all (· < nt)=true/\codeOk E.ok assign=true/\codeOk E.ok body=true then
   (match run (some r) nt dep [.code assign,.beginRound,.code body] ⟨yh tm ps args,H⟩ with
   | some st=>(match As st.hp r with
    | some (0,_)=>some (.v (.bool true),st.hp)
    | some (n+2,_)=>some (.v (.bool false),st.hp)
    | _=>none)
   | none=>none)
  else none
 | _=>none
def fx(E:Env)(run:Option Ref->Nat->Nat->List Item->St->Option St)(dep:Nat)(t:yD)(args:List AV)(H:aa):Option (AV × aa):=
 match t with
 | .fn f=>(match E.thrSpec f args H with
  | some z=>some z
  | none=>if E.mode f=2 then wE E run (dep+1) f args H else none)
 | .yld r=>Ci E run (dep+1) r args H
def yt(rd:Option Ref)(st:St)(n:Nat):Option St:=match rd with
 | none=>if n=2 then some st else none
 | some r=>match As st.hp r with
  | some (1,inf)=>some { st with hp:=st.hp.put r (some (kV n inf))}
  | _=>none
def sQ(E:Env)(ops:Array Oper):List (Tmp × Tmp):=E.apart ops
def jK:AV->Option Ref
 | .ptr r _ _=>some r
 | .cG r _ _ _=>some r
 | .mp r=>some r
 | .ch r=>some r
 | _=>none
def F9(tm:List AV)(p:Tmp × Tmp):Bool:=match jK (dJ tm p.1),jK (dJ tm p.2) with
 | some r,some r'=>decide (r≠r')
 | _,_=>true
def ze(st:St)(o:Oper):Bool:=match o.op with
 | .store _ (.tmp t) _=>(match dJ st.tm t with
  | .ptr r _ _=>(match st.hp.get r with
   | some b => !b.arr
   | none=>false)
  | _=>true)
 | _=>true
def bsT:Op->Option Tmp
 | .buildSlice _ _ ps=>(match ps.toList with
  | [(_,.tmp t)]=>some t
  | _=>none)
 | _=>none
def Jy(E:Env)(st:St)(o:Oper):Bool := !(E.kq o&&Cv o.op)||(match bsT o.op with
 | some t=>(match dJ st.tm t with
  | .cG .. => true
  | .v _=>true
  | _=>false)
 | none=>false)
def uy(E:Env)(ops:Array Oper)(st:St):Bool:=(sQ E ops).isEmpty||((sQ E ops).all (F9 st.tm)&&(ops.toList.all (ze st)&&ops.toList.all (Jy E st)))
def cr(E:Env):Nat->(rd:Option Ref)->(nt dep:Nat)->List Item->St->Option St
 | 0,_,_,_,_,_=>none
 | n+1,rd,nt,dep,items,st=>
  match items with
  | []=>(match rd with
   | none=>some st
   | some _=>yt rd st 0)
  | .beginRound :: k=>(match rd with
   | none=>none
   | some r=>match As st.hp r with
    | some (0,inf)=>cr E n rd nt dep k { st with hp:=st.hp.put r (some (kV 1 inf))}
    | _=>none)
  | .code c :: k=>
   (match c with
   | .skip | .label _=>cr E n rd nt dep k st
   | .ret=>yt rd st 2
   | .seq a b=>cr E n rd nt dep (.code a :: .code b :: k) st
   | .cond c a b=>
    (match (aK st.tm c).bind FL with
    | some true=>cr E n rd nt dep (.code a :: k) st
    | some false=>cr E n rd nt dep (.code b :: k) st
    | none=>none)
   | .block id b=>cr E n rd nt dep (.code b :: .inBlock id :: k) st
   | .scope b=>cr E n rd nt dep (.code b :: .inScope b :: k) st
   | .loop b=>cr E n rd nt dep (.code b :: .inLoop b :: k) st
   | .exit id=>(match exitTo id k with
    | some k'=>cr E n rd nt dep k' st
    | none=>if rd.isSome then yt rd st (id+3) else none)
   | .region _ ops draw=>(match nU E (cS E (cr E n)) (fx E (cr E n) dep) nt dep draw ops ops.toList st with
    | some d=>if draw && !uy E ops d then none else cr E n rd nt dep k d
    | none=>none)
   | .rangeFunc g ps assign body=>(match rd,aK st.tm g with
    | none,some (.fn (.func gi) first captured)=>
     (match fx E (cr E n) dep (.fn gi) (first++[.yld ⟨dep,nt,st.hp.gen dep nt,0⟩]++captured)
      ((⟨dep,nt,st.hp.gen dep nt,0⟩,some (kV 0 (.lp 0 nt ps.toList assign body st.tm))) :: st.hp) with
     | some (_,H')=>(match As H' ⟨dep,nt,st.hp.gen dep nt,0⟩ with
      | some (0,_)=>cr E n rd nt dep k ⟨st.tm,H'.put ⟨dep,nt,st.hp.gen dep nt,0⟩ none⟩
      | some (2,_)=>some ⟨st.tm,H'.put ⟨dep,nt,st.hp.gen dep nt,0⟩ none⟩
      | some (id+3,_)=>(match exitTo id k with
       | some k'=>cr E n rd nt dep k' ⟨st.tm,H'.put ⟨dep,nt,st.hp.gen dep nt,0⟩ none⟩
       | none=>none)
      | _=>none)
     | none=>none)
    | _,_=>none)
   | _=>none)
  | .inLoop b :: k=>cr E n rd nt dep (.code b :: .inLoop b :: k) st
  | .inBlock _ :: k | .inScope _ :: k=>cr E n rd nt dep k st
  | _=>none
def eR(o:Oper):List Nat:=(o.after.toList.filter (Region.binds .any)).map (·.on)
def Da(a:List Nat):List Nat->Nat
 | []=>0
 | j :: b=>(2 ^ j ||| a.getD j 0) ||| Da a b
def dw:List Oper->List Nat->List Nat
 | [],acc=>acc
 | o :: os,acc=>dw os (acc++[Da acc (eR o)])
def QW(c:Call):Bool:=match c.args.toList with
 | [.tmp _]=>true
 | _=>false
def kA:Op->Bool
 | .move _ | .assign _ | .pick .. | .binOp .. | .unOp .. | .makeInterface .. | .makeFunc .. | .fieldAddr .. | .field .. | .index .. | .typeAssert .. | .extract .. | .nilCheck _ | .build .. => false
 | .call c=>match c.callee with
  | .builtin .len=>QW c
  | .builtin .min | .builtin .max=>false
  | _=>true
 | _=>true
def Ow:Op->Bool
 | .call c=>(match c.callee with
  | .builtin .len=>true
  | _=>false)
 | _=>false
def yC(E:Env)(o:Oper):Bool:=kA o.op && !(E.strict o&&Ow o.op)
def ji(ops:Array Oper)(i:Nat):Option Tmp:=(ops[i]?).bind (·.dst)
def lk(E:Env)(ops:Array Oper)(i:Nat):Bool:=(List.range (i+1)).any λj=>match ops[j]? with
 | some o=>jC E o
 | none=>false
def zH(ops:Array Oper)(A:List Nat)(oi a:Oper)(i j:Nat):Bool:=
 (a.dst.isNone||oi.dst != a.dst) &&
 (match a.dst with | some d => !(oi.looksAt ops).contains d||(A.getD i 0).testBit j | none=>true) &&
 (match oi.dst with | some d => !(a.looksAt ops).contains d||(A.getD i 0).testBit j | none=>true)
def QE(E:Env)(ops:Array Oper)(A:List Nat)(oi a:Oper)(i j:Nat):Bool:=
 zH ops A oi a i j &&
 (!(yC E oi&&yC E a&&lk E ops i)||(A.getD i 0).testBit j)
def D9(E:Env)(ops:Array Oper):Bool:=
 (List.range ops.size).all λi=>match ops[i]? with
  | some oi=>(eR oi).all (· < i)&&(!yC E oi||jC E oi||oi.dst.isSome) &&
   (List.range i).all λj=>match ops[j]? with
    | some a=>QE E ops (dw ops.toList []) oi a i j
    | none=>true
  | none=>true
def CN(P:Program):Op->Option Tmp
 | .load _ (.tmp t)=>some t
 | .indexAddr _ (.tmp t) _=>some t
 | .slice _ (.tmp t) _ _ _=>some t
 | .convert _ dst (.tmp t)=>if fS P dst then none else some t
 | .lookup _ (.tmp t) _ _=>some t
 | .call c=>match c.callee with
  | .builtin .len=>(match c.args.toList with
   | [.tmp t]=>some t
   | _=>none)
  | _=>none
 | _=>none
def storeT:Op->Option Tmp
 | .store _ (.tmp t) _=>some t
 | _=>none
def Jz:Op->Option Tmp
 | .call c=>match c.callee with
  | .builtin .append=>(match c.args.toList with
   | .tmp t :: _=>some t
   | _=>none)
  | _=>none
 | _=>none
def Tx:Op->Option Tmp
 | .mapUpdate _ (.tmp t) _ _=>some t
 | .insert _ (.tmp t) _ _=>some t
 | .mapEntry _ (.tmp t) _=>some t
 | .entryStore _ (.tmp t) _ _=>some t
 | _=>none
def Ih(o:Op):Option Tmp:=match Tx o with
 | some t=>some t
 | none=>Jz o
def qQ(E:Env)(o:Oper):Bool:=E.kq o && !E.strict o&&(match o.op with
 | .call c=>(match c.callee with
  | .value (.func g)=>E.mode g == 2
  | _=>false)
 | _=>false)
def cls(E:Env)(o:Oper):Nat:=
 if yC E o then (if (storeT o.op).isSome then 2 else if (CN E.P o.op).isSome then 1 else if jC E o then 4 else 3) else 0
def mZ(E:Env)(o:Oper):Option Tmp:=match storeT o.op with
 | some t=>some t
 | none=>match CN E.P o.op with
  | some t=>some t
  | none=>if Cv o.op then bsT o.op else Ih o.op
def settled(E:Env)(ops:Array Oper)(oi c:Oper):Bool:=match mZ E oi,mZ E c with
 | some a,some b=>(sQ E ops).contains (a,b)||(sQ E ops).contains (b,a)
 | _,_=>false
def blind(E:Env)(o:Oper):Bool:=cls E o == 3&&(match o.op with
 | .alloc _ | .makeMap _ none=>true
 | .call c=>c.args.toList.isEmpty&&(match c.callee with
  | .value (.func _)=>true
  | _=>false)
 | _=>false)
def Q5(E:Env)(o:Oper):Bool:=cls E o == 3&&(match o.op with
 | .alloc _ | .makeMap _ none=>true
 | _=>false)
def pz(E:Env)(oi a:Oper):Bool:=Q5 E oi&&((Jz a.op).isSome&&a.dst.isSome)
def rq(E:Env)(oi a:Oper):Bool:=(cls E oi == 2&&Nat.ble 3 (cls E a) && !blind E a)||(cls E a == 2&&Nat.ble 3 (cls E oi) && !blind E oi)||(Nat.ble 3 (cls E oi)&&Nat.ble 3 (cls E a)&&(cls E oi == 4||cls E a == 4) && !pz E oi a && !pz E a oi)
def El(b a:Nat):Bool:=(b == 2&&(a == 1||a == 2))||(a == 2&&b == 1)||(b == 1&&a == 4)||(b == 4&&a == 1)
def QU(E:Env)(ops:Array Oper)(A:List Nat)(oi a:Oper)(i j:Nat):Bool:=
 zH ops A oi a i j &&
 (!rq E oi a||(A.getD i 0).testBit j) &&
 (!El (cls E oi) (cls E a)||qQ E oi||qQ E a||(A.getD i 0).testBit j||settled E ops oi a)
def Qc(ops:Array Oper)(i:Nat)(t:Option Tmp):Bool:=match t with
 | some t=>(List.range ops.size).all λk=>ji ops k != some t||decide (k<i)
 | none=>false
def RY(E:Env)(ops:Array Oper)(i:Nat)(o:Oper):Bool:=match cls E o with
 | 0=>true
 | 3=>o.dst.isSome
 | _=>qQ E o||Qc ops i (mZ E o)
def Wu(E:Env)(ops:Array Oper):Bool := !(sQ E ops).isEmpty &&
 (List.range ops.size).all λi=>match ops[i]? with
  | some oi=>(eR oi).all (· < i)&&RY E ops i oi &&
   (List.range i).all λj=>match ops[j]? with
    | some a=>QU E ops (dw ops.toList []) oi a i j
    | none=>true
  | none=>true
def De(E:Env)(ops:Array Oper):Bool:=D9 E ops||Wu E ops
theorem oT{d:Type}{P:Program}{s:Sem d} : ∀ {a:d},bh P s=some a ->∀w,s.run P w = .ok a w:=by
 induction s with
 | pure a=>intro b h w;simp[bh]at h;subst h;rfl
 | program k c=>intro a h w;exact c P h w
 | mark m k c=>intro a h w;exact c h w
 | _=>intro a h;simp[bh]at h
theorem kj{e g:Type}{f:e->Option g} : ∀ {l:List e} {c:List g},l.mapM f=some c->c.length=l.length:=by
 intro l
 induction l with
 | nil=>intro c h;simp at h;subst h;rfl
 | cons a l j=>
  intro c h
  simp only[nY,uF,vf,iw]at h
  obtain⟨b,_,k,d,i⟩:=h
  simp at i
  subst i
  simp[j d]
theorem sA{k g:Type}{f:k->Option g} : ∀ {l:List k} {d:List g},l.mapM f=some d ->∀(i:Nat)(y:g),d[i]?=some y ->∃x,l[i]?=some x/\f x=some y:=by
 intro l
 induction l with
 | nil=>intro d h i y c;simp at h;subst h;simp at c
 | cons a l m=>
  intro d h i y c
  simp only[nY,uF,vf,iw]at h
  obtain⟨b,n,o,e,j⟩:=h
  simp at j
  subst j
  cases i with
  | zero=>simp at c;subst c;exact⟨a,rfl,n⟩
  | succ i=>simp at c;simpa using m e i y c
theorem lL{c e:Type}{f:c->Option e}{l:List c}{b:List e}(h:l.mapM f=some b)(i:Nat)(x:c)(g:l[i]?=some x) : ∃y,b[i]?=some y/\f x=some y:=by
 have k:=kj h
 have d:i<b.length:=by rw[k];exact(iX.1 g).1
 obtain⟨m,a,j⟩:=sA h i b[i] (fj d)
 rw[g]at a
 cases a
 exact⟨_,fj d,j⟩
abbrev Mem:=Nat->Nat->Option Value
structure Loc where
 b:Nat
 esz:Nat
 n:Nat
abbrev Map:=Ref->Option Loc
def eB:Map:=λ_=>none
inductive VR (M:Mem):Map->AV->Value->Prop
 | v {ι x} (h:scalar x=true):VR M ι (.v x) x
 | agg {ι cs vs} (hl:cs.length=vs.size) (h : ∀(i:Nat) c u,cs[i]?=some c->vs[i]?=some u->VR M ι c u):VR M ι (.agg cs) (.agg vs)
 | tup {ι cs vs} (h0:cs≠[]) (hl:cs.length=vs.size) (h : ∀(i:Nat) c u,cs[i]?=some c->vs[i]?=some u->VR M ι c u):VR M ι (.tup cs) (.tuple vs)
 | cD {ι esz es cap a c} (cell:Nat->Nat->Value) (hs:a.spot=none\/es=[]) (hc:es.length<=c) (hk : ∀k,cap=some k->c=k)
  (hm : ∀i j,i<es.length->j<esz->M a.block (a.off+(i * esz+j))=some (cell i j)/\(cell i j).oneCell'=true)
  (he : ∀e∈es,e.cells.length=esz)
  (h : ∀(i j:Nat) e x,es[i]?=some e->e.cells[j]?=some x->VR M eB x (cell i j)):VR M ι (.cD esz es cap) (.slice (some a) es.length c)
 | cG {ι r off len cap l a c} (hr:ι r=some l) (hb:a.block=l.b) (hs:a.spot=none) (ha:c=0\/a.off=off * l.esz) (hc:len<=c) (hn:c=0\/off+c<=l.n)
  (hk : ∀k,cap=some k->c=k) (hz:0<l.esz):VR M ι (.cG r off len cap) (.slice (some a) len c)
 | ptr {ι r i j l} (hr:ι r=some l) (hz:0<l.esz):VR M ι (.ptr r i j) (.pointer (some ⟨l.b,i * l.esz+j,none⟩))
 | iptr {ι esz es i j b o} (cell:Nat->Nat->Value)
  (hm : ∀i j,i<es.length->j<esz->M b (o+(i * esz+j))=some (cell i j)/\(cell i j).oneCell'=true)
  (he : ∀e∈es,e.cells.length=esz)
  (h : ∀(i j:Nat) e x,es[i]?=some e->e.cells[j]?=some x->VR M eB x (cell i j)):VR M ι (.iptr esz es i j) (.pointer (some ⟨b,o+(i * esz+j),none⟩))
 | fn {ι f a b a' b'} (ha:a.length=a'.size) (hb:b.length=b'.size) (h : ∀(i:Nat) c u,a[i]?=some c->a'[i]?=some u->VR M ι c u)
  (h' : ∀(i:Nat) c u,b[i]?=some c->b'[i]?=some u->VR M ι c u):VR M ι (.fn f a b) (.func f a' b')
 | ifc {ι t x u} (h:VR M ι x u):VR M ι (.ifc t x) (.iface t u)
 | yld {ι r l} (hr:ι r=some l) (hz:l.esz=0):VR M ι (.yld r) (.func (.yield l.b) #[] #[])
 | mp {ι r l} (hr:ι r=some l) (hz:l.esz=0):VR M ι (.mp r) (.map (some l.b))
 | ch {ι r l} (hr:ι r=some l) (hz:l.esz=0):VR M ι (.ch r) (.chan (some l.b))
theorem VR.mono{M M':Mem}(C : ∀b o x,M b o=some x->M' b o=some x){ι:Map}{x:AV}{u:Value}(h:VR M ι x u) :
 ∀a:Map,(∀r l,ι r=some l->a r=some l)->VR M' a x u:=by
 induction h with
 | v h=>intro a _;exact .v h
 | agg A _ g=>intro a d;exact .agg A λi c u f q=>g i c u f q a d
 | tup E A _ g=>intro a d;exact .tup E A λi c u f q=>g i c u f q a d
 | cD cell y f w hm he _ g=>
  intro a d
  exact .cD cell y f w (λi j p n=>⟨C _ _ _ (hm i j p n).1,(hm i j p n).2⟩) he λi j e x p n=>g i j e x p n eB (λ_ _ h=>h)
 | cG k B y t f D w m=>intro a d;exact .cG (d _ _ k) B y t f D w m
 | ptr k m=>intro a d;exact .ptr (d _ _ k) m
 | yld k m=>intro a d;exact .yld (d _ _ k) m
 | mp k m=>intro a d;exact .mp (d _ _ k) m
 | ch k m=>intro a d;exact .ch (d _ _ k) m
 | iptr cell hm he _ g=>
  intro a d
  exact .iptr cell (λi j p n=>⟨C _ _ _ (hm i j p n).1,(hm i j p n).2⟩) he λi j e x p n=>g i j e x p n eB (λ_ _ h=>h)
 | fn t B _ _ g z=>intro a d;exact .fn t B (λi c u f q=>g i c u f q a d) λi c u f q=>z i c u f q a d
 | ifc _ g=>intro a d;exact .ifc (g a d)
theorem VR.up{M:Mem}{x:AV}{u:Value}(h:VR M eB x u)(ι:Map):VR M ι x u:=h.mono (λ_ _ _ h=>h) ι (λ_ _ h=>by cases h)
def mA(M:Mem)(ι:Map)(xs:List AV)(us:List Value):Prop:=xs.length=us.length /\∀(i:Nat) x u,xs[i]?=some x->us[i]?=some u->VR M ι x u
theorem mA.nil{M:Mem}{ι:Map}:mA M ι [] []:=⟨rfl,λi x u h=>by simp at h⟩
theorem mA.cons{M:Mem}{ι:Map}{x:AV}{u:Value}{xs:List AV}{us:List Value}(h:VR M ι x u)(c:mA M ι xs us):mA M ι (x :: xs) (u :: us):=
 ⟨by simp[c.1],λi y v a b=>by
  cases i with
  | zero=>simp at a b;subst a;subst b;exact h
  | succ i=>simp at a b;exact c.2 i y v a b⟩
theorem mA.append{M:Mem}{ι:Map}{xs ys:List AV}{us e:List Value}(h:mA M ι xs us)(d:mA M ι ys e):mA M ι (xs++ys) (us++e):=
 ⟨by simp[h.1,d.1],λi y v c b=>by
  rcases fE i xs.length with a | a
  ·rw[oI a]at c
   rw[oI (h.1 ▸ a)]at b
   exact h.2 i y v c b
  ·rw[p4 a]at c
   rw[p4 (h.1 ▸ a)]at b
   rw[<-h.1]at b
   exact d.2 _ y v c b⟩
theorem mA.mono{M M':Mem}{ι a:Map}{xs:List AV}{us:List Value}(h:mA M ι xs us)(f : ∀b o x,M b o=some x->M' b o=some x)(c : ∀r l,ι r=some l->a r=some l):mA M' a xs us:=
 ⟨h.1,λi x u e d=>(h.2 i x u e d).mono f a c⟩
theorem mA.take{M:Mem}{ι:Map}{xs:List AV}{us:List Value}(h:mA M ι xs us)(n:Nat):mA M ι (xs.take n) (us.take n):=
 ⟨by simp[h.1],λi x u a b=>by
  rw[CB]at a b
  split at a
  ·rename_i c;rw[if_pos c]at b;exact h.2 i x u a b
  ·cases a⟩
theorem mA.drop{M:Mem}{ι:Map}{xs:List AV}{us:List Value}(h:mA M ι xs us)(n:Nat):mA M ι (xs.drop n) (us.drop n):=
 ⟨by simp[h.1],λi x u b a=>by
  rw[Hh]at b a
  exact h.2 _ x u b a⟩
theorem VR.sS{M:Mem}{ι:Map}{cs:List AV}{b:Array Value}:VR M ι (.agg cs) (.agg b)↔mA M ι cs b.toList:=
 ⟨λh=>by cases h with | agg f h=>exact⟨by simpa using f,λi x u e a=>h i x u e (by simpa using a)⟩,
  λh => .agg (by simpa using h.1) λi c u d a=>h.2 i c u d (by simpa using a)⟩
theorem VR.cells{M:Mem}{ι:Map}{x:AV}{u:Value}(h:VR M ι x u):mA M ι x.cells u.cells.toList:=by
 have one : ∀ {x:AV} {u:Value},VR M ι x u->x.cells=[x]->u.cells = #[u]->mA M ι x.cells u.cells.toList:=by
  intro x u h f k
  rw[f,k]
  exact mA.cons h mA.nil
 cases h with
 | agg j h=>exact⟨by simpa [AV.cells,Value.cells] using j,λi x u f k=>h i x u (by simpa [AV.cells] using f) (by simpa [Value.cells] using k)⟩
 | v h=>
  refine one (.v h) rfl ?_
  cases u<;>first | rfl | (simp[scalar]at h)
 | tup o j h=>exact one (.tup o j h) rfl rfl
 | cD cell g e d hm he h=>exact one (.cD cell g e d hm he h) rfl rfl
 | cG a l g c e m d b=>exact one (.cG a l g c e m d b) rfl rfl
 | ptr a b=>exact one (.ptr a b) rfl rfl
 | yld a b=>exact one (.yld a b) rfl rfl
 | mp a b=>exact one (.mp a b) rfl rfl
 | ch a b=>exact one (.ch a b) rfl rfl
 | iptr cell hm he h=>exact one (.iptr cell hm he h) rfl rfl
 | fn c l h n=>exact one (.fn c l h n) rfl rfl
 | ifc h=>exact one (.ifc h) rfl rfl
theorem VR.one{M:Mem}{ι:Map}{x:AV}{u:Value}(h:VR M ι x u)(a:x.one=true):u.oneCell'=true:=by
 cases h with
 | v h=>cases u<;>first | rfl | (simp[AV.one]at a)
 | agg b h=>simp[AV.one]at a
 | tup c b h=>simp[AV.one]at a
 | cD=>rfl
 | cG=>rfl
 | ptr=>rfl
 | iptr=>rfl
 | fn=>rfl
 | ifc=>rfl
 | yld=>rfl
 | mp=>rfl
 | ch=>rfl
theorem oV{M:Mem}{ι:Map}{u:Value}{x:AV}(h:kg u=some x):VR M ι x u:=by
 unfold kg at h
 split at h
 ·cases h;exact .v (by assumption)
 ·cases h
theorem Ei{M:Mem}{ι:Map}{us:List Value}{xs:List AV}(h:us.mapM kg=some xs):mA M ι xs us:=
 ⟨kj h,λi x u c b=>by
  obtain⟨e,a,d⟩:=sA h i x c
  rw[b]at a;cases a
  exact oV d⟩
theorem jX{M:Mem}{ι:Map}{u:Value}{x:AV}(h:ofValue u=some x):VR M ι x u:=by
 cases u with
 | agg cs=>
  simp only[ofValue,bN]at h
  obtain⟨xs,d,rfl⟩:=h
  exact VR.sS.2 (Ei d)
 | func f a b=>
  simp only[ofValue]at h
  split at h
  ·rename_i j
   cases h
   simp at j
   obtain⟨rfl,rfl⟩:=j
   exact .fn rfl rfl (λi c u g=>by simp at g) (λi c u g=>by simp at g)
  ·cases h
 | tuple o=>
  simp only[ofValue]at h
  split at h
  ·rename_i k
   simp at k
   subst k
   cases h
   exact .v rfl
  ·rename_i k
   simp only[bN]at h
   obtain⟨xs,d,rfl⟩:=h
   have l:=Ei (M:=M) (ι:=ι) d
   refine .tup ?_ (by simpa using l.1) λi c u g m=>l.2 i c u g (by simpa using m)
   intro e
   subst e
   have:=l.1
   simp at this
   exact k (by simpa using M5 this.symm)
 | iface t x=>
  simp only[ofValue,bN]at h
  obtain⟨y,n,rfl⟩:=h
  exact .ifc (oV n)
 | _=>exact oV (by simpa [ofValue] using h)
theorem P6{M:Mem}{ι:Map}{x:AV}{u v:Value}(h:VR M ι x u)(a:Ks x=some v):u=v:=by
 cases h<;>simp[Ks]at a
 exact a
theorem wb{M:Mem}{ι:Map}{x:AV}{u v:Value}(h:VR M ι x u)(f:gV x=some v):u=v:=by
 cases h<;>simp[gV]at f
 ·exact f
 ·rename_i cs g n m
  obtain⟨l,a,rfl⟩:=f
  congr 1
  apply FY
  intro i
  rcases fE i g.size with e | e
  ·have d:=kj a
   have b:i<l.length:=by omega
   obtain⟨c,j,k⟩:=sA a i l[i] (fj b)
   have:=P6 (m i c g[i] j (ku e)) k
   simp[this,ku e,fj b]
  ·have d:=kj a
   rw[Array.getElem?_eq_none e]
   simp
   omega
def bw.map(k:bw)(ι:Map):Map:=if k.arr then eB else ι
def ET(z a:Nat)(fz:Nat × Nat):Prop:=(∀o,o<a ->¬(fz.1<=o/\(o<fz.2\/fz.2<fz.1)))/\(1<z ->¬(fz.1<=a/\a<fz.2))
theorem ET.zero(z n:Nat):ET z n (0,0):=⟨λo _ h=>by simp at h,λ_ h=>by simp at h⟩
structure gq (M:Mem) (ι:Map) (w:World) (l:Loc) (k:bw):Prop where
 esz:l.esz=k.esz
 heap : ∃arr T fz,w.heap[l.b]?=some (.cells arr T fz)/\arr.size=l.n * k.esz/\ET k.esz arr.size fz /\
  ∀(i j:Nat) e x,k.es[i]?=some e->e.cells[j]?=some x ->∃u,arr[i * k.esz+j]?=some u/\u.oneCell'=true/\VR M (k.map ι) x u
 len:k.es.length<=l.n
 cells : ∀e∈k.es,e.cells.length=k.esz
 frozen : ∀o x,M l.b o=some x->k.kq=true/\o<k.es.length * k.esz
def D1(n:Nat)(r:Loop):Prop:=match n with
 | 0=>r.state = .ready/\r.pending=none
 | 1=>r.state = .busy
 | 2=>r.state = .done/\r.pending=some .ret
 | id+3=>r.state = .done/\r.pending=some (.exit id)
def JF(M:Mem)(ι:Map)(w:World)(l:Loc)(k:bw):Prop:=
 ∃(n nt:Nat) (ps:List Tmp) (assign body:Code) (tm:List AV) (r:Loop),k.esz=0/\k.arr=false/\k.es=[.v (.int .i64 n),.lp 0 nt ps assign body tm]/\w.heap[l.b]?=some (.loop r)/\r.params=ps.toArray/\r.assign=assign/\r.body=body /\
  r.tmps.size=nt/\(∀t,VR M ι (dJ tm t) (r.tmps.getD t undef))/\D1 n r
def Ps(M:Mem)(ι:Map)(w:World)(l:Loc)(k:bw):Prop:=
 ∃(ents:List AV) (a:Array MapEntry),k.esz=0/\k.arr=false/\k.es = .v (.bool true) :: ents/\w.heap[l.b]?=some (.map a a.size)/\a.size=ents.length /\
  ∀(i:Nat) ent e,ents[i]?=some ent->a[i]?=some e ->∃c d,ent = .tup [c,d]/\gV c=some e.key/\VR M ι d e.val/\e.born=i
def JI(M:Mem)(ι:Map)(w:World)(l:Loc)(k:bw):Prop:=
 ∃(cap s r:Nat) (c:Bool) (a:List AV) (arr:Array Value),k.esz=0/\k.arr=false/\k.es = .v (.bool false) :: .v (.int .i64 cap) :: .v (.bool c) :: a/\w.heap[l.b]?=some (.chan cap arr c s r false) /\
  arr.size=a.length /\∀(i:Nat) x u,a[i]?=some x->arr[i]?=some u->VR M ι x u
def oB(M:Mem)(ι:Map)(w:World)(l:Loc)(k:bw):Prop:=JF M ι w l k\/Ps M ι w l k\/JI M ι w l k
structure pP (M:Mem) (ι:Map) (w:World) (l:Loc) (k:bw):Prop where
 esz:l.esz=k.esz
 cellsOk:0<k.esz->gq M ι w l k
 objOk:k.esz=0->oB M ι w l k
 frozen : ∀o x,M l.b o=some x->k.kq=true/\o<k.es.length * k.esz
theorem gq.Xa{M:Mem}{ι:Map}{w:World}{l:Loc}{k:bw}(h:gq M ι w l k)(a:0<k.esz):pP M ι w l k:=⟨h.esz,λ_=>h,λe=>by omega,h.frozen⟩
theorem oB.zero{M:Mem}{ι:Map}{w:World}{l:Loc}{k:bw}(h:oB M ι w l k):k.esz=0/\k.arr=false:=by
 rcases h with ⟨n,nt,ps,as,c,tm,r,b,a,_⟩ | ⟨ents,entries,b,a,_⟩ | ⟨_,_,_,_,_,_,b,a,_⟩
 ·exact⟨b,a⟩
 ·exact⟨b,a⟩
 ·exact⟨b,a⟩
theorem oB.obj{M:Mem}{ι:Map}{w:World}{l:Loc}{k:bw}(h:oB M ι w l k):(∃r,w.heap[l.b]?=some (.loop r))\/(∃es c,w.heap[l.b]?=some (.map es c)) \/∃a b c d e f,w.heap[l.b]?=some (.chan a b c d e f):=by
 rcases h with ⟨n,nt,ps,as,g,tm,r,_,_,_,h,_⟩ | ⟨ents,entries,_,_,_,h,_⟩ | ⟨_,_,_,_,_,_,_,_,_,h,_⟩
 ·exact .inl ⟨_,h⟩
 ·exact .inr (.inl ⟨_,_,h⟩)
 ·exact .inr (.inr ⟨_,_,_,_,_,_,h⟩)
theorem oB.same{M:Mem}{ι:Map}{w:World}{l:Loc}{k k':bw}(h:oB M ι w l k)(i:k'.esz=k.esz)(g:k'.arr=k.arr)(f:k'.es=k.es):oB M ι w l k':=by
 rcases h with ⟨n,nt,ps,as,m,tm,r,a,e,b,d⟩ | ⟨ents,entries,a,e,b,d⟩ | ⟨c,s,r,j,buf,arr,a,e,b,d⟩
 ·exact .inl ⟨n,nt,ps,as,m,tm,r,i.trans a,g.trans e,f.trans b,d⟩
 ·exact .inr (.inl ⟨ents,entries,i.trans a,g.trans e,f.trans b,d⟩)
 ·exact .inr (.inr ⟨c,s,r,j,buf,arr,i.trans a,g.trans e,f.trans b,d⟩)
theorem oB.Xa{M:Mem}{ι:Map}{w:World}{l:Loc}{k:bw}(h:oB M ι w l k)(d:l.esz=0)(c : ∀o x,M l.b o=some x->False):pP M ι w l k:=
 ⟨by rw[d,h.zero.1],λe=>by have:=h.zero.1;omega,λ_=>h,λo x a=>(c o x a).elim⟩
theorem pP.pos{M:Mem}{ι:Map}{w:World}{l:Loc}{k:bw}(h:pP M ι w l k)(a:k.arr=true):0<k.esz:=by
 rcases Kn k.esz with e | e
 ·have:=(h.objOk e).zero.2;rw[a]at this;cases this
 ·exact e
structure iv (M:Mem) (ι:Map) (g:cX) (w:World):Prop where
 mem : ∀b o x,M b o=some x->w.cell? ⟨b,o,none⟩=some x
 live : ∀r k,g r=some k ->∃l,ι r=some l/\pP M ι w l k
 inj : ∀r r' k k' l l',g r=some k->g r'=some k'->ι r=some l->ι r'=some l'->l.b=l'.b->r=r'
theorem iv.at{M:Mem}{ι:Map}{g:cX}{w:World}(d:iv M ι g w){r:Ref}{b:bw}{l:Loc}(f:ι r=some l)(h:0<l.esz)(e:g r=some b):gq M ι w l b:=by
 obtain⟨i,a,c⟩:=d.live r b e
 rw[f]at a;cases a
 exact c.cellsOk (by have:=c.esz;omega)
theorem oB.mono{M M':Mem}{ι d:Map}{w w':World}{l:Loc}{k:bw}(h:oB M ι w l k)(A : ∀b o x,M b o=some x->M' b o=some x)(f : ∀r l,ι r=some l->d r=some l)(B:w'.heap[l.b]?=w.heap[l.b]?):oB M' d w' l k:=by
 rcases h with ⟨n,nt,ps,as,I,tm,r,p,z,q,m,j,v,g,K,D,H⟩ | ⟨ents,entries,p,q,m,j,v,g⟩ | ⟨c,s,r,G,buf,arr,p,q,m,j,v,g⟩
 ·exact .inl ⟨n,nt,ps,as,I,tm,r,p,z,q,by rw[B];exact m,j,v,g,K,λt=>(D t).mono A d f,H⟩
 ·exact .inr (.inl ⟨ents,entries,p,q,m,by rw[B];exact j,v,λi y e a b=>by obtain⟨J,L,E,F,C⟩:=g i y e a b;exact⟨J,L,E,F,C.1.mono A d f,C.2⟩⟩)
 ·exact .inr (.inr ⟨c,s,r,G,buf,arr,p,q,m,by rw[B];exact j,v,λi x u a b=>(g i x u a b).mono A d f⟩)
structure vp (M:Mem) (ι:Map) (g:cX) (w:World) (M':Mem) (ι':Map) (g':cX) (w':World):Prop where
 os:w'.os=w.os
 tape:w'.tape=w.tape
 output:w'.output=w.output
 size:w.heap.size<=w'.heap.size
 chg : ∀b,b<w.heap.size->(∀r k l,g r=some k->ι r=some l->l.b≠b)->w'.heap[b]?=w.heap[b]?
 mem : ∀b o x,M b o=some x->M' b o=some x
 map : ∀r l,ι r=some l->ι' r=some l
 live : ∀r k l,g' r=some k->ι' r=some l->w.heap.size<=l.b \/∃r0 k0 l0,g r0=some k0/\ι r0=some l0/\l0.b=l.b
 new : ∀b o x,M' b o=some x->M b o=some x\/w.heap.size<=b \/∃r0 k0 l0,g r0=some k0/\ι r0=some l0/\l0.b=b
theorem vp.refl{M:Mem}{ι:Map}{g:cX}{w:World}:vp M ι g w M ι g w:=
 ⟨rfl,rfl,rfl,de _,λ_ _ _=>rfl,λ_ _ _ h=>h,λ_ _ h=>h,λr k l h a => .inr ⟨r,k,l,h,a,rfl⟩,λ_ _ _ h => .inl h⟩
theorem vp.trans{M ι g w M' ι' g' w' M'' ι'' g'' w''}(h:vp M ι g w M' ι' g' w')(c:vp M' ι' g' w' M'' ι'' g'' w''):vp M ι g w M'' ι'' g'' w'':=by
 have f : ∀b,b<w.heap.size->(∀r k l,g r=some k->ι r=some l->l.b≠b) ->∀r k l,g' r=some k->ι' r=some l->l.b≠b:=by
  intro b u d r k l y q e
  rcases h.live r k l y q with a | ⟨m,t,p,a,n,i⟩
  ·omega
  ·exact d m t p a n (i.trans e)
 refine⟨c.os.trans h.os,c.tape.trans h.tape,c.output.trans h.output,Cy h.size c.size,?_,λb o x z=>c.mem b o x (h.mem b o x z),
  λr l q=>c.map r l (h.map r l q),?_,?_⟩
 ·intro b u d
  rw[c.chg b (FX u h.size) (f b u d),h.chg b u d]
 ·intro r k l y q
  rcases c.live r k l y q with a | ⟨m,t,p,a,n,i⟩
  ·exact .inl (Cy h.size a)
  ·rcases h.live m t p a n with j | ⟨r1,A,B,j,v,C⟩
   ·exact .inl (i ▸ j)
   ·exact .inr ⟨r1,A,B,j,v,C.trans i⟩
 ·intro b o x z
  rcases c.new b o x z with a | a | ⟨m,t,p,a,n,i⟩
  ·exact h.new b o x a
  ·exact .inr (.inl (Cy h.size a))
  ·rcases h.live m t p a n with j | ⟨r1,A,B,j,v,C⟩
   ·exact .inr (.inl (i ▸ j))
   ·exact .inr (.inr ⟨r1,A,B,j,v,C.trans i⟩)
theorem lP{w:World}{b o:Nat}{arr:Array Value}{T:TypeId}{fz:Nat × Nat}(h:w.heap[b]?=some (.cells arr T fz)):w.cell? ⟨b,o,none⟩=arr[o]?:=by
 simp[World.cell?,h]
theorem iW(b o n:Nat):(⟨b,o,none⟩:Addr).add n=⟨b,o+n,none⟩:=by
 unfold Addr.add;split<;>simp_all
theorem lQ{a:Addr}(h:a.spot=none):a=⟨a.block,a.off,none⟩:=by cases a;simp_all
theorem Af{P:Program}{t:TypeId}{n:Nat}(h:aH P t=some n) : ∃i,P.info? t=some i/\i.size=n:=by
 simpa [aH] using h
theorem run_sizeOf{P:Program}{t:TypeId}{n:Nat}(h:aH P t=some n)(w:World):(sizeOf t).run P w = .ok n w:=by
 obtain⟨i,a,rfl⟩:=Af h
 simp[sizeOf,typeInfo,a]
theorem bz{P:Program}{t:TypeId}{d:TypeDesc}(h:P.underlying t=some d)(w:World):(underlying t).run P w = .ok d w:=by
 simp[underlying,h]
theorem Cg{P:Program}{t:TypeId}{b:Bool}(h:dq P t=some b)(w:World):(isAgg t).run P w = .ok b w:=by
 simp only[dq,bN]at h
 obtain⟨d,a,rfl⟩:=h
 simp only[isAgg,Sem.run_bind,bz a,Result.andThen_ok]
 cases d<;>rfl
theorem zg{P:Program}{t:TypeId}{z:AV}(h:eI P t=some z)(w:World) : ∃u,(zeroValue t).run P w = .ok u w/\ofValue u=some z:=by
 simp only[eI,iw]at h
 obtain⟨u,⟨i,a,b⟩,hu⟩:=h
 exact⟨u,by simp[zeroValue,typeInfo,a,b],hu⟩
def Cells(M:Mem)(ι:Map)(w:World)(b o:Nat)(xs:List AV):Prop:=
 ∀(j:Nat) x,xs[j]?=some x ->∃u,w.cell? ⟨b,o+j,none⟩=some u/\u.oneCell'=true/\VR M ι x u
theorem Cells.values{M ι w b o}{xs:List AV}(h:Cells M ι w b o xs) : ∃us:List Value,mA M ι xs us/\(∀u∈us,u.oneCell'=true) /\∀(j:Nat) u,us[j]?=some u->w.cell? ⟨b,o+j,none⟩=some u:=by
 induction xs generalizing o with
 | nil=>exact⟨[],mA.nil,by simp,by simp⟩
 | cons x xs c=>
  obtain⟨u,hu,i,g⟩:=h 0 x rfl
  obtain⟨us,d,e,k⟩:=c (o:=o+1) λj y f=>by
   have:=h (j+1) y (by simpa using f)
   rwa [show o+(j+1)=o+1+j by omega]at this
  refine⟨u :: us,mA.cons g d,by simpa [i] using e,?_⟩
  intro j v a
  cases j with
  | zero=>simp at a;subst a;exact hu
  | succ j=>
   simp at a
   have:=k j v a
   rwa [show o+(j+1)=o+1+j by omega]
theorem Cells.sub{M ι w b o}{xs:List AV}(h:Cells M ι w b o xs)(j n:Nat):Cells M ι w b (o+j) ((xs.drop j).take n):=by
 intro i x a
 rw[CB]at a
 split at a
 ·rw[Hh]at a
  obtain⟨u,d,c⟩:=h _ x a
  exact⟨u,by rwa [show o+j+i=o+(j+i) by omega],c⟩
 ·cases a
theorem xj{P:Program}{t:TypeId}{f:Bool}{n:Nat}(i:dq P t=some f)(p:aH P t=some n){M ι w b o}{cs:List AV}{j:Nat}{y:AV}
 (g:Cells M ι w b o cs)
 (e:(if f then (if j+n<=cs.length/\0<n then some (AV.agg ((cs.drop j).take n)) else none) else cs[j]?)=some y) :
 ∃u,(loadVar t ⟨b,o+j,none⟩).run P w = .ok u w/\VR M ι y u:=by
 cases f with
 | false=>
  simp at e
  obtain⟨u,hu,_,m⟩:=g j y e
  exact⟨u,by simp[loadVar,Cg i,hu],m⟩
 | true=>
  simp at e
  obtain⟨⟨x,q⟩,rfl⟩:=e
  obtain⟨us,d,_,a⟩:=(g.sub j n).values
  have c:us.length=n:=by rw[<-d.1];simp;omega
  refine⟨.agg us.toArray,?_,VR.sS.2 (by simpa using d)⟩
  have h:=run_loadCells_list (P:=P) w ⟨b,o+j,none⟩ us (λk v l=>by rw[iW];exact a k v l)
  rw[c]at h
  simp[loadVar,Cg i,run_sizeOf p,h]
theorem gq.cell{M ι w l k}(h:gq M ι w l k)(i:Nat){e:AV}(m:k.es[i]?=some e):Cells M (k.map ι) w l.b (i * k.esz) e.cells:=by
 obtain⟨arr,T,fz,c,_,_,f⟩:=h.heap
 intro j x g
 obtain⟨u,hu,d,a⟩:=f i j e x m g
 exact⟨u,by rw[lP c];exact hu,d,a⟩
theorem bw.map_le(k:bw)(ι:Map) : ∀r l,k.map ι r=some l->ι r=some l:=by
 intro r l h
 unfold bw.map at h
 split at h
 ·cases h
 ·exact h
theorem R0{P:Program}{t:TypeId}{c:Bool}{n:Nat}(A:dq P t=some c)(z:aH P t=some n){M ι g w}(x:iv M ι g w)
 {r:Ref} {i j:Nat} {k:bw} {y:AV} {a:Value} (l:VR M ι (.ptr r i j) a) (m:g r=some k) (b:cm k.es i j n c=some y) :
 ∃u,(Instr.loadAt t a).run P w = .ok u w/\VR M ι y u:=by
 cases l with | ptr q p=>
 have d:=x.at q p m
 unfold cm at b
 split at b
 ·cases b
 ·rename_i e o
  obtain⟨u,f,v⟩:=xj A z (d.cell i o) b
  refine⟨u,?_,v.mono (λ_ _ _ h=>h) ι (k.map_le ι)⟩
  rw[<-d.esz]at f
  simp[Instr.loadAt,Instr.sureAddr,f]
theorem Cells.ab3{M:Mem}{w:World}(k : ∀b o x,M b o=some x->w.cell? ⟨b,o,none⟩=some x){esz b o i:Nat}{es:List AV}{cell:Nat->Nat->Value}
 (f : ∀i j,i<es.length->j<esz->M b (o+(i * esz+j))=some (cell i j)/\(cell i j).oneCell'=true)
 (l : ∀e∈es,e.cells.length=esz) (h : ∀(i j:Nat) e x,es[i]?=some e->e.cells[j]?=some x->VR M eB x (cell i j)) {e:AV} (c:es[i]?=some e):Cells M eB w b (o+i * esz) e.cells:=by
 intro j x g
 have d:j<esz:=by
  rw[<-l e (fU c)]
  exact(iX.1 g).1
 have a:i<es.length:=(iX.1 c).1
 refine⟨cell i j,?_,(f i j a d).2,h i j e x c g⟩
 rw[show o+i * esz+j=o+(i * esz+j) by omega]
 exact k _ _ _ (f i j a d).1
theorem WL{P:Program}{t:TypeId}{d:Bool}{n:Nat}(q:dq P t=some d)(p:aH P t=some n){M ι w}(l : ∀b o x,M b o=some x->w.cell? ⟨b,o,none⟩=some x)
 {esz i j:Nat} {es:List AV} {y:AV} {a:Value} (k:VR M ι (.iptr esz es i j) a) (c:cm es i j n d=some y) :
 ∃u,(Instr.loadAt t a).run P w = .ok u w/\VR M ι y u:=by
 cases k with | iptr cell v he h=>
 rename_i b o
 unfold cm at c
 split at c
 ·cases c
 ·rename_i e m
  obtain⟨u,f,g⟩:=xj q p (Cells.ab3 l v he h m) c
  refine⟨u,?_,g.up ι⟩
  rw[show o+i * esz+j=o+(i * esz+j) by omega]at f
  simp[Instr.loadAt,Instr.sureAddr,f]
structure FP (w w':World) (o:Obj):Prop where
 os:w'.os=w.os
 tape:w'.tape=w.tape
 output:w'.output=w.output
 heap:w'.heap=w.heap.push o
theorem FP.cell{w w':World}{o:Obj}(h:FP w w' o){a:Addr}{x:Value}(b:w.cell? a=some x):w'.cell? a=some x:=by
 have c:=World.block_lt_of_cell? w a b
 unfold World.cell? at b ⊢
 rw[h.heap,FZ c,<-ku c]
 exact b
theorem FP.old{w w':World}{o:Obj}(h:FP w w' o)(b:Nat)(a:b<w.heap.size):w'.heap[b]?=w.heap[b]?:=by
 rw[h.heap,FZ a,<-ku a]
def kS(ι:Map)(q:Ref)(l:Loc):Map:=λr=>if r=q then some l else ι r
def lU(g:cX)(q:Ref)(k:bw):cX:=λr=>if r=q then some k else g r
theorem GS{ι:Map}{q:Ref}{l:Loc}(b:ι q=none) : ∀r a,ι r=some a->kS ι q l r=some a:=by
 intro r a h
 unfold kS
 split
 ·subst_vars;rw[b]at h;cases h
 ·exact h
theorem iv.YK{M ι g w}(h:iv M ι g w){q:Ref}(c:ι q=none):g q=none:=by
 cases b:g q with
 | none=>rfl
 | some k=>obtain⟨l,a,_⟩:=h.live q k b;rw[c]at a;cases a
theorem gq.lt{M ι w l k}(h:gq M ι w l k):l.b<w.heap.size:=by
 obtain⟨arr,T,fz,a,_⟩:=h.heap
 exact(iR.1 a).1
theorem oB.lt{M ι w l k}(h:oB M ι w l k):l.b<w.heap.size:=by
 rcases h.obj with ⟨_,a⟩ | ⟨_,_,a⟩ | ⟨_,_,_,_,_,_,a⟩
 ·exact(iR.1 a).1
 ·exact(iR.1 a).1
 ·exact(iR.1 a).1
theorem pP.lt{M ι w l k}(h:pP M ι w l k):l.b<w.heap.size:=by
 rcases Kn k.esz with e | e
 ·exact(h.objOk e).lt
 ·exact(h.cellsOk e).lt
theorem pP.W6{M ι w l k}(h:pP M ι w l k){arr:Array Value}{T:TypeId}{fz:Nat × Nat}(c:w.heap[l.b]?=some (.cells arr T fz)):gq M ι w l k/\0<k.esz:=by
 rcases Kn k.esz with e | e
 ·rcases(h.objOk e).obj with ⟨_,a⟩ | ⟨_,_,a⟩ | ⟨_,_,_,_,_,_,a⟩
  ·rw[c]at a;cases a
  ·rw[c]at a;cases a
  ·rw[c]at a;cases a
 ·exact⟨h.cellsOk e,e⟩
theorem gq.bQ{M ι w l k M' ι' w'}(h:gq M ι w l k)(y : ∀b o x,M b o=some x->M' b o=some x)(d : ∀r l,ι r=some l->ι' r=some l)
 (p:w'.heap[l.b]?=w.heap[l.b]?) (A : ∀o x,M' l.b o=some x->k.kq=true/\o<k.es.length * k.esz):gq M' ι' w' l k:=by
 obtain⟨arr,T,fz,m,q,g,n⟩:=h.heap
 refine⟨h.esz,⟨arr,T,fz,p ▸ m,q,g,?_⟩,h.len,h.cells,A⟩
 intro i j e x v t
 obtain⟨u,hu,f,B⟩:=n i j e x v t
 refine⟨u,hu,f,B.mono y _ ?_⟩
 intro r z a
 unfold bw.map at a ⊢
 split
 ·rename_i c;rw[if_pos c]at a;exact a
 ·rename_i c;rw[if_neg c]at a;exact d r z a
theorem pP.bQ{M ι w l k M' ι' w'}(h:pP M ι w l k)(d : ∀b o x,M b o=some x->M' b o=some x)(a : ∀r l,ι r=some l->ι' r=some l)
 (c:w'.heap[l.b]?=w.heap[l.b]?) (f : ∀o x,M' l.b o=some x->k.kq=true/\o<k.es.length * k.esz):pP M' ι' w' l k:=
 ⟨h.esz,λe=>(h.cellsOk e).bQ d a c f,λe=>(h.objOk e).mono d a c,f⟩
theorem iv.alloc{M ι g w}(y:iv M ι g w){q:Ref}(O:ι q=none){w':World}{arr:Array Value}{T:TypeId}{fz:Nat × Nat}(t:FP w w' (.cells arr T fz))
 (k:bw) (S:0<k.esz) (n:Nat) (J:arr.size=n * k.esz) (I:ET k.esz arr.size fz) (D:k.es.length<=n) (c : ∀e∈k.es,e.cells.length=k.esz)
 (P : ∀(i j:Nat) e x,k.es[i]?=some e->e.cells[j]?=some x ->∃u,arr[i * k.esz+j]?=some u/\u.oneCell'=true/\VR M (k.map ι) x u) :
 iv M (kS ι q ⟨w.heap.size,k.esz,n⟩) (lU g q k) w'/\vp M ι g w M (kS ι q ⟨w.heap.size,k.esz,n⟩) (lU g q k) w':=by
 have f:=GS (l:=⟨w.heap.size,k.esz,n⟩) O
 have B : ∀b o x,M b o=some x->b<w.heap.size:=λb o x h=>World.block_lt_of_cell? w ⟨b,o,none⟩ (y.mem b o x h)
 have A:w'.heap[w.heap.size]?=some (.cells arr T fz):=by rw[t.heap];simp
 refine⟨⟨λb o x h=>t.cell (y.mem b o x h),?_,?_⟩,⟨t.os,t.tape,t.output,by rw[t.heap];simp,λb d _=>t.old b d,λ_ _ _ h=>h,f,?_,λ_ _ _ h => .inl h⟩⟩
 ·intro r k' p
  unfold lU at p
  split at p
  ·rename_i e
   subst e
   cases p
   refine⟨⟨w.heap.size,k.esz,n⟩,by simp[kS],gq.Xa ⟨rfl,⟨arr,T,fz,A,J,I,?_⟩,D,c,?_⟩ S⟩
   ·intro i j e x R Q
    obtain⟨u,hu,N,U⟩:=P i j e x R Q
    refine⟨u,hu,N,U.mono (λ_ _ _ h=>h) _ ?_⟩
    intro r' W a
    unfold bw.map at a ⊢
    split
    ·rename_i H;rw[if_pos H]at a;exact a
    ·rename_i H;rw[if_neg H]at a;exact f r' W a
   ·intro o x h
    exact absurd (B _ _ _ h) (Cz _)
  ·obtain⟨l,a,d⟩:=y.live r k' p
   exact⟨l,f r l a,d.bQ (λ_ _ _ h=>h) f (t.old _ d.lt) d.frozen⟩
 ·intro r r' L K V X C z m v G
  unfold lU at C z
  unfold kS at m v
  by_cases E:r=q<;>by_cases F:r'=q
  ·rw[E,F]
  ·rw[if_pos E]at m;rw[if_neg F]at z v
   obtain⟨l,a,d⟩:=y.live r' K z
   rw[a]at v;cases v;cases m
   exact absurd d.lt (by rw[<-G];exact Cz _)
  ·rw[if_neg E]at C m;rw[if_pos F]at v
   obtain⟨l,a,d⟩:=y.live r L C
   rw[a]at m;cases m;cases v
   exact absurd d.lt (by rw[G];exact Cz _)
  ·rw[if_neg E]at C m;rw[if_neg F]at z v
   exact y.inj r r' L K V X C z m v G
 ·intro r k' l p a
  unfold lU at p
  unfold kS at a
  split at p
  ·rename_i e;rw[if_pos e]at a;cases a;exact .inl (de _)
  ·rename_i e;rw[if_neg e]at a;exact .inr ⟨r,k',l,p,a,rfl⟩
def bX(w:World)(b:Nat)(o:Obj):World := { w with heap:=w.heap.setIfInBounds b o}
theorem gA{w:World}{b:Nat}{o:Obj}(a:b<w.heap.size):(bX w b o).heap[b]?=some o:=by simp[bX,a]
theorem eN{w:World}{b b':Nat}{o:Obj}(h:b≠b'):(bX w b o).heap[b']?=w.heap[b']?:=by simp[bX,CC h]
def cw(arr:Array Value)(o:Nat)(us:List Value):Array Value:=(arr.toList.take o++us++arr.toList.drop (o+us.length)).toArray
theorem iC{arr:Array Value}{o:Nat}{us:List Value}(h:o+us.length<=arr.size)(i:Nat) :
 (cw arr o us)[i]?=if o<=i/\i<o+us.length then us[i - o]? else arr[i]?:=by
 unfold cw
 simp only[PR]
 have b:(arr.toList.take o).length=o:=by simp;omega
 rcases fE i o with a | a
 ·rw[Dv,oI (by omega),CB,if_pos a,if_neg (by omega)]
  simp
 ·rcases fE i (o+us.length)with c | c
  ·rw[Dv,p4 (by omega),oI (by omega),if_pos ⟨a,c⟩,b]
  ·rw[p4 (by simp;omega),Hh,if_neg (by omega)]
   simp only[pH,b,Ko]
   congr 1
   omega
theorem jn{arr:Array Value}{o:Nat}{us:List Value}(h:o+us.length<=arr.size):(cw arr o us).size=arr.size:=by
 simp[cw];omega
theorem m7{P:Program}{b:Nat}{T:TypeId}{fz:Nat × Nat}(o:Nat) : ∀(us:List Value)(i:Nat)(arr:Array Value)(w:World),w.heap[b]?=some (.cells arr T fz) ->
 o+i+us.length<=arr.size->(∀j,j<arr.size ->¬(fz.1<=j/\(j<fz.2\/fz.2<fz.1)))->(∀u∈us,u.oneCell'=true) ->
 (storeCells ⟨b,o,none⟩ us i).run P w = .ok () (bX w b (.cells (cw arr (o+i) us) T fz)):=by
 intro us
 induction us with
 | nil=>
  intro i arr w a t l n
  have g:=(iR.1 a).1
  have e:cw arr (o+i) []=arr:=by simp[cw]
  have C:bX w b (.cells arr T fz)=w:=by
   have:w.heap.setIfInBounds b (.cells arr T fz)=w.heap:=by
    apply FY
    intro k
    by_cases c:b=k
    ·subst c;rw[a,Hk g]
    ·rw[CC c]
   unfold bX
   rw[this]
  simp[storeCells,e,C]
 | cons u us z=>
  intro i arr w a t l n
  have g:=(iR.1 a).1
  simp only[sc]at t
  have x:w.cell? ⟨b,o+i,none⟩=some arr[o+i]:=by rw[lP a];exact ku (by omega)
  have p:w.frozen? ⟨b,o+i,none⟩=false:=by
   have:=l (o+i) (by omega)
   simp only[World.frozen?,a]
   simp only[PQ,decide_eq_false_iff_not]
   by_cases h:fz.1<=o+i
   ·exact .inr λB=>this ⟨h,.inl B⟩
   ·exact .inl h
  have f:w.setCell ⟨b,o+i,none⟩ u=bX w b (.cells (arr.setIfInBounds (o+i) u) T fz):=by
   unfold World.setCell bX
   congr 1
   apply FY
   intro k
   rw[MX]
   by_cases c:b=k
   ·subst c;rw[a,Hk g];simp
   ·simp[c,CC c]
  have d:=n u (by simp)
  have m:=z (i+1) (arr.setIfInBounds (o+i) u) (bX w b (.cells (arr.setIfInBounds (o+i) u) T fz)) (gA g) (by simp;omega) (by simpa using l) (λv y=>n v (by simp[y]))
  simp only[storeCells,Sem.run_bind,iW,run_store P w _ u _ d,x,p,f]
  simp only[mr, ↓reduceIte,Result.andThen_ok]
  rw[m]
  congr 1
  unfold bX
  simp only[Array.setIfInBounds_setIfInBounds]
  congr 3
  apply FY
  intro k
  rw[iC (by simp;omega),iC (by simp;omega)]
  by_cases A:k=o+i
  ·subst A
   rw[if_neg (by omega),if_pos ⟨de _,by simp⟩]
   simp[show o+i<arr.size by omega]
  ·by_cases q:o+(i+1)<=k/\k<o+(i+1)+us.length
   ·rw[if_pos q,if_pos (by simp;omega)]
    rw[show k - (o+i)=(k - (o+(i+1)))+1 by omega]
    simp
   ·rw[if_neg q,if_neg (by simp;omega)]
    rw[CC (by omega)]
theorem iv.mark{M ι g w}(n:iv M ι g w){r:Ref}{k:bw}{l:Loc}(v:g r=some k)(A:ι r=some l){arr:Array Value}{T:TypeId}{G fz:Nat × Nat}{w':World}
 (H:w.heap[l.b]?=some (.cells arr T G)) (m:w'=bX w l.b (.cells arr T fz)) (y:ET k.esz arr.size fz):iv M ι g w'/\vp M ι g w M ι g w':=by
 obtain⟨W,q,O⟩:=n.live r k v
 rw[A]at q;cases q
 have E:=O.lt
 have f:w'.heap[l.b]?=some (.cells arr T fz):=by rw[m];exact gA E
 have d : ∀b,l.b≠b->w'.heap[b]?=w.heap[b]?:=λb a=>by rw[m];exact eN a
 have i : ∀b o,w'.cell? ⟨b,o,none⟩=w.cell? ⟨b,o,none⟩:=by
  intro b o
  by_cases a:l.b=b
  ·subst a;rw[lP f,lP H]
  ·exact World.cell?_of_block (d b a)
 refine⟨⟨λb o x h=>by rw[i];exact n.mem b o x h,?_,n.inj⟩,?_⟩
 ·intro r' D t
  obtain⟨F,p,c⟩:=n.live r' D t
  refine⟨F,p,?_⟩
  by_cases a:l.b=F.b
  ·obtain⟨j,B⟩:=c.W6 (a ▸ H)
   obtain⟨I,S,R,u,P,V,L⟩:=j.heap
   rw[<-a,H]at u
   injection u with u;injection u with J Q U
   subst J;subst Q
   have C:D=k:=by
    have e:=n.inj r r' k D l F v t A p a
    subst e;rw[v]at t;exact(Option.some.inj t).symm
   exact gq.Xa ⟨c.esz,⟨arr,T,fz,by rw[<-a];exact f,P,by rw[C];exact y,L⟩,j.len,j.cells,c.frozen⟩ B
  ·exact c.bQ (λ_ _ _ h=>h) (λ_ _ h=>h) (d _ a) c.frozen
 ·refine⟨by rw[m];rfl,by rw[m];rfl,by rw[m];rfl,by rw[m];simp[bX],λb K z=>d b (z r k l v A),λ_ _ _ h=>h,λ_ _ h=>h,λr k l h N => .inr ⟨r,k,l,h,N,rfl⟩,λ_ _ _ h => .inl h⟩
theorem iv.write{M ι g w}(B:iv M ι g w){r:Ref}{k k':bw}{l:Loc}(v:g r=some k)(F:ι r=some l)(U:0<l.esz){arr:Array Value}{T:TypeId}{fz:Nat × Nat}{w':World}
 (f:w'=bX w l.b (.cells arr T fz)) (a:k'.esz=k.esz) (Q:k'.arr=k.arr) (J:arr.size=l.n * k.esz) (H:ET k.esz arr.size fz)
 (y:k'.es.length<=l.n) (c : ∀e∈k'.es,e.cells.length=k.esz) (m : ∀o x,M l.b o=some x->False)
 (S : ∀(i j:Nat) e x,k'.es[i]?=some e->e.cells[j]?=some x ->∃u,arr[i * k.esz+j]?=some u/\u.oneCell'=true/\VR M (k'.map ι) x u) :
 iv M ι (lU g r k') w'/\vp M ι g w M ι (lU g r k') w':=by
 obtain⟨Z,E,N⟩:=B.live r k v
 rw[F]at E;cases E
 have O:=N.lt
 refine⟨⟨?_,?_,?_⟩,?_⟩
 ·intro b o x h
  have t:l.b≠b:=λe=>m o x (e ▸ h)
  rw[World.cell?_of_block (w:=w) (by rw[f];exact eN t)]
  exact B.mem b o x h
 ·intro r' d z
  unfold lU at z
  split at z
  ·rename_i e
   subst e
   cases z
   refine⟨l,F,gq.Xa ⟨by rw[N.esz,a],⟨arr,T,fz,by rw[f];exact gA O,by rw[a];exact J,by rw[a];exact H,by rw[a];exact S⟩,y,by rw[a];exact c,λo x h=>(m o x h).elim⟩ (by rw[a,<-N.esz];exact U)⟩
  ·rename_i t
   obtain⟨q,C,A⟩:=B.live r' d z
   have P:l.b≠q.b:=λe=>t (B.inj r' r d k q l z v C F e.symm)
   exact⟨q,C,A.bQ (λ_ _ _ h=>h) (λ_ _ h=>h) (by rw[f];exact eN P) A.frozen⟩
 ·intro r1 r2 d Y q X D G W V R
  have p : ∀ {r1:Ref} {d:bw},lU g r k' r1=some d ->∃k,g r1=some k:=by
   intro r1 d h
   unfold lU at h
   split at h
   ·rename_i e;exact⟨k,e ▸ v⟩
   ·exact⟨d,h⟩
  obtain⟨_,K⟩:=p D
  obtain⟨_,L⟩:=p G
  exact B.inj r1 r2 _ _ q X K L W V R
 ·refine⟨by rw[f];rfl,by rw[f];rfl,by rw[f];rfl,by rw[f];simp[bX],?_,λ_ _ _ h=>h,λ_ _ h=>h,?_,λ_ _ _ h => .inl h⟩
  ·intro b _ I
   rw[f]
   exact eN (I r k l v F)
  ·intro r1 d q D G
   unfold lU at D
   split at D
   ·rename_i e;subst e;exact .inr ⟨r1,k,q,v,G,rfl⟩
   ·exact .inr ⟨r1,d,q,D,G,rfl⟩
end Go.Ab
namespace Go.Ab
open Classical
def UB(ι:Map)(g:cX)(R:List Ref)(b o:Nat):Prop :=∃r∈R,∃k l,g r=some k/\ι r=some l/\l.b=b/\o<k.es.length * k.esz
noncomputable def nK(M:Mem)(ι:Map)(g:cX)(w:World)(R:List Ref):Mem:=λb o=>
 match M b o with
 | some x=>some x
 | none=>if UB ι g R b o then w.cell? ⟨b,o,none⟩ else none
theorem xE{M ι g w R} : ∀b o x,M b o=some x->nK M ι g w R b o=some x:=by
 intro b o x h;simp[nK,h]
theorem AD{M ι g w R}(c : ∀b o x,M b o=some x->w.cell? ⟨b,o,none⟩=some x) : ∀b o x,nK M ι g w R b o=some x->w.cell? ⟨b,o,none⟩=some x:=by
 intro b o x h
 unfold nK at h
 split at h
 ·rename_i y a;cases h;exact c b o _ a
 ·split at h
  ·exact h
  ·cases h
theorem Dl{M ι g w R b o x}(h:nK M ι g w R b o=some x):M b o=some x\/UB ι g R b o:=by
 unfold nK at h
 split at h
 ·rename_i y a;cases h;exact .inl a
 ·split at h
  ·rename_i c;exact .inr c
  ·cases h
theorem FA{n esz i j:Nat}(a:i<n)(b:j<esz):i * esz+j<n * esz:=by
 have:(i+1) * esz<=n * esz:=mY _ a
 rw[nA]at this
 omega
theorem Pn{M ι g w R}(t:iv M ι g w){r:Ref}{k:bw}{l:Loc}(E:r∈R)(n:g r=some k)(q:ι r=some l){i j:Nat}(h:i<k.es.length)(C:j<k.esz) :
 ∃u,nK M ι g w R l.b (i * k.esz+j)=some u/\u.oneCell'=true/\w.cell? ⟨l.b,i * k.esz+j,none⟩=some u /\
  ∀e x,k.es[i]?=some e->e.cells[j]?=some x->VR M (k.map ι) x u:=by
 obtain⟨I,c,f⟩:=t.live r k n
 rw[q]at c;cases c
 replace f:=f.cellsOk (by omega)
 obtain⟨arr,T,fz,A,H,G,B⟩:=f.heap
 have d:k.es[i]?=some k.es[i]:=fj h
 have z:=f.cells k.es[i] (mq h)
 have a:k.es[i].cells[j]?=some (k.es[i].cells[j]'(by omega)):=fj _
 obtain⟨u,hu,v,F⟩:=B i j _ _ d a
 have m:w.cell? ⟨l.b,i * k.esz+j,none⟩=some u:=by rw[lP A];exact hu
 refine⟨u,?_,v,m,?_⟩
 ·unfold nK
  split
  ·rename_i y D;have:=t.mem _ _ _ D;rw[m]at this;cases this;rfl
  ·rw[if_pos ⟨r,E,k,l,n,q,rfl,FA h C⟩];exact m
 ·intro e x p o
  rw[d]at p;cases p
  rw[a]at o;cases o
  exact F
theorem Ng{g:cX}{n:Nat}{x y:AV}(h:view g (n+1) x=some y)(c : ∀cs,x ≠ .agg cs):x.cells=[x]/\y.cells=[y]:=by
 refine⟨by cases x<;>first | rfl | exact absurd rfl (c _),?_⟩
 cases x with
 | agg cs=>exact absurd rfl (c cs)
 | v x=>simp[view]at h;subst h;rfl
 | tup cs=>simp only[view,bN]at h;obtain⟨_,_,rfl⟩:=h;rfl
 | cD=>simp[view]at h;subst h;rfl
 | iptr=>simp[view]at h;subst h;rfl
 | fsl=>simp[view]at h
 | cG r off len cap=>
  simp only[view]at h
  split at h
  ·split at h
   ·cases h;rfl
   ·cases h
  ·cases h
 | ptr r i j=>
  simp only[view]at h
  split at h
  ·split at h
   ·cases h;rfl
   ·simp only[bN]at h;obtain⟨_,_,rfl⟩:=h;rfl
  ·cases h
 | fn f a b=>
  simp only[view]at h
  split at h
  ·cases h;rfl
  ·cases h
 | ifc t x=>simp only[view,bN]at h;obtain⟨_,_,rfl⟩:=h;rfl
 | yld=>simp[view]at h
 | mp=>simp[view]at h
 | ch=>simp[view]at h
 | lp=>simp[view]at h
theorem HP{g:cX}{n:Nat}{e i:AV}(h:view g (n+1) e=some i) :
 i.cells.length=e.cells.length /\∀(j:Nat) b,i.cells[j]?=some b ->∃m x,m<=n+1/\e.cells[j]?=some x/\view g m x=some b /\∀r∈ao g m x,r∈ao g (n+1) e:=by
 by_cases c : ∃cs,e = .agg cs
 ·obtain⟨cs,rfl⟩:=c
  simp only[view,bN]at h
  obtain⟨ys,d,rfl⟩:=h
  refine⟨by simp[AV.cells,kj d],?_⟩
  intro j b a
  obtain⟨x,c,p⟩:=sA d j b (by simpa [AV.cells] using a)
  refine⟨n,x,by omega,by simpa [AV.cells] using c,p,?_⟩
  intro r f
  simp only[ao,tC]
  exact⟨x,fU c,f⟩
 ·obtain⟨l,k⟩:=Ng h (λcs o=>c ⟨cs,o⟩)
  refine⟨by rw[l,k];rfl,?_⟩
  intro j b a
  rw[k]at a
  cases j with
  | zero=>
   simp at a
   subst a
   exact⟨n+1,e,de _,by rw[l];rfl,h,λr f=>f⟩
  | succ j=>simp at a
theorem Dz{M ι g w R}(hS:iv M ι g w) : ∀(n:Nat)(x y:AV)(u:Value),view g n x=some y->(∀r∈ao g n x,r∈R)->VR M ι x u->VR (nK M ι g w R) eB y u:=by
 intro n
 induction n using Nat.strongRecOn with | ind n ih=>
 intro x y u h J N
 cases n with
 | zero=>simp[view]at h
 | succ n=>
  have A : ∀ {cs ys:List AV} {us:List Value},cs.mapM (view g n)=some ys->(∀r∈cs.flatMap (ao g n),r∈R)->mA M ι cs us->mA (nK M ι g w R) eB ys us:=by
   intro cs ys us F J hvs
   refine⟨by rw[kj F];exact hvs.1,λi y' u hy G=>?_⟩
   obtain⟨x,B,X⟩:=sA F i y' hy
   exact ih n (by omega) x y' u X (λr L=>J r (tC.2 ⟨x,fU B,L⟩)) (hvs.2 i x u B G)
  cases x with
  | v x=>simp[view]at h;subst h;cases N with | v Y=>exact .v Y
  | agg cs=>
   simp only[view,bN]at h
   obtain⟨ys,F,rfl⟩:=h
   cases N with | agg hl P=>
   exact VR.sS.2 (A F (by simpa [ao] using J) (VR.sS.1 (.agg hl P)))
  | tup cs=>
   simp only[view,bN]at h
   obtain⟨ys,F,rfl⟩:=h
   cases N with | tup h0 hl P=>
   rename_i vs
   have:=A (us:=vs.toList) F (by simpa [ao] using J) ⟨by simpa using hl,λi x u B G=>P i x u B (by simpa using G)⟩
   refine .tup ?_ (by simpa using this.1) λi c u S G=>this.2 i c u S (by simpa using G)
   intro e
   subst e
   have I:=kj F
   exact h0 (Dy (by simpa using I.symm))
  | cD esz es cap=>
   simp[view]at h;subst h
   cases N with | cD cell Y S Q hm H P=>
   exact(VR.cD (M:=M) (ι:=eB) cell Y S Q hm H P).mono xE _ (λ_ _ h=>h)
  | iptr esz es i j=>
   simp[view]at h;subst h
   cases N with | iptr cell hm H P=>
   exact(VR.iptr (M:=M) (ι:=eB) cell hm H P).mono xE _ (λ_ _ h=>h)
  | fsl=>simp[view]at h
  | cG r off len cap=>
   simp only[view]at h
   split at h
   ·rename_i k Q
    split at h
    ·rename_i P
     cases h
     obtain⟨z,K⟩:=P
     cases N with | cG L hb Y ha S hn hkk T=>
     rename_i l a c
     have V:r∈R:=J r (by simp[ao])
     have q:=hS.at L T Q
     have hll:((k.es.drop off).take len).length=len:=by simp;omega
     have hat : ∀i,i<len->((k.es.drop off).take len)[i]?=k.es[off+i]?:=by
      intro i p
      rw[CB,if_pos p,Hh]
     have U:0<len->a.off=off * k.esz:=by
      intro h0
      rcases ha with h | h
      ·omega
      ·rw[h,q.esz]
     have key : ∀i j,i<len->j<k.esz ->∃u,nK M ι g w R a.block (a.off+(i * k.esz+j))=some u/\u.oneCell'=true /\∀e x,k.es[off+i]?=some e->e.cells[j]?=some x->VR M (k.map ι) x u:=by
      intro i j p D
      obtain⟨u,I,O,_,h3⟩:=Pn hS V Q L (i:=off+i) (j:=j) (by omega) D
      refine⟨u,?_,O,h3⟩
      rw[U (by omega),hb,show off * k.esz+(i * k.esz+j)=(off+i) * k.esz+j by rw[nA];omega]
      exact I
     let cell:Nat->Nat->Value:=λi j=>(nK M ι g w R a.block (a.off+(i * k.esz+j))).getD undef
     have:=VR.cD (M:=nK M ι g w R) (ι:=eB) (esz:=k.esz) (es:=(k.es.drop off).take len) (cap:=cap) (a:=a) (c:=c) cell (.inl Y) (by omega) hkk
      (by
       intro i j p D
       rw[hll]at p
       obtain⟨u,I,O,_⟩:=key i j p D
       simp[cell,I,O])
      (by
       intro e H
       exact q.cells e (Hj (AQ H)))
      (by
       intro i j e x p B
       have C:i<len:=by have:=(iX.1 p).1;omega
       rw[hat i C]at p
       have D:j<k.esz:=by
        rw[<-q.cells e (fU p)]
        exact(iX.1 B).1
       obtain⟨u,I,O,h3⟩:=key i j C D
       have:=h3 e x p B
       rw[bw.map,if_pos z]at this
       simp only[cell,I,cY]
       exact this.mono xE _ (λ_ _ h=>h))
     rw[hll]at this
     exact this
    ·cases h
   ·cases h
  | ptr r i j=>
   cases N with | ptr L T=>
   rename_i l
   simp only[view]at h
   split at h
   ·rename_i k Q
    have V:r∈R:=J r (by simp[ao])
    have q:=hS.at L T Q
    let cell:Nat->Nat->Value:=λi j=>(nK M ι g w R l.b (0+(i * k.esz+j))).getD undef
    have d : ∀i j,i<k.es.length->j<k.esz->nK M ι g w R l.b (0+(i * k.esz+j))=some (cell i j)/\(cell i j).oneCell'=true /\∀e x,k.es[i]?=some e->e.cells[j]?=some x->VR M (k.map ι) x (cell i j):=by
     intro i j p D
     obtain⟨u,I,O,_,h3⟩:=Pn hS V Q L p D
     rw[vQ]at *
     simp only[cell,vQ,I,cY]
     exact⟨trivial,O,h3⟩
    split at h
    ·rename_i z
     cases h
     have:=VR.iptr (M:=nK M ι g w R) (ι:=eB) (esz:=k.esz) (es:=k.es) (i:=i) (j:=j) (b:=l.b) (o:=0) cell (λi j p D=>⟨(d i j p D).1,(d i j p D).2.1⟩) q.cells
      (by
       intro i j e x p B
       have C:=(iX.1 p).1
       have D:j<k.esz:=by
        rw[<-q.cells e (fU p)]
        exact(iX.1 B).1
       have:=(d i j C D).2.2 e x p B
       rw[bw.map,if_pos z]at this
       exact this.mono xE _ (λ_ _ h=>h))
     rw[vQ]at this
     rw[q.esz]
     exact this
    ·rename_i z
     simp only[bN]at h
     obtain⟨es',E,rfl⟩:=h
     cases n with
     | zero=>
      cases hke:k.es with
      | nil=>
       rw[hke]at E
       simp at E
       subst E
       have:=VR.iptr (M:=nK M ι g w R) (ι:=eB) (esz:=k.esz) (es:=[]) (i:=i) (j:=j) (b:=l.b) (o:=0) cell (by intro i j p;simp at p) (by simp) (by intro i j e x p;simp at p)
       rw[vQ]at this
       rw[q.esz]
       exact this
      | cons e es=>
       rw[hke]at E
       simp[view]at E
     | succ n=>
      have K:=kj E
      have:=VR.iptr (M:=nK M ι g w R) (ι:=eB) (esz:=k.esz) (es:=es') (i:=i) (j:=j) (b:=l.b) (o:=0) cell
       (λi j p D=>⟨(d i j (K ▸ p) D).1,(d i j (K ▸ p) D).2.1⟩)
       (by
        intro e' he'
        obtain⟨i',C,rfl⟩:=tD he'
        obtain⟨e,H,X⟩:=sA E i' _ (fj C)
        rw[(HP X).1]
        exact q.cells e (fU H))
       (by
        intro i' j' e' x' C hx'
        obtain⟨e,H,X⟩:=sA E i' e' C
        obtain⟨m,x,hm,B,hfx,W⟩:=(HP X).2 j' x' hx'
        have hlt:=(iX.1 H).1
        have D:j'<k.esz:=by
         rw[<-q.cells e (fU H)]
         exact(iX.1 B).1
        have Z:=(d i' j' hlt D).2.2 e x H B
        rw[bw.map,if_neg z]at Z
        refine ih m (by omega) x x' _ hfx ?_ Z
        intro r' hr'
        refine J r' ?_
        simp only[ao,Q,if_neg z,nB,tC]
        exact .inr ⟨e,fU H,W r' hr'⟩)
      rw[vQ]at this
      rw[q.esz]
      exact this
   ·cases h
  | fn f a b=>
   simp only[view]at h
   split at h
   ·rename_i a' b' ha' hb'
    cases h
    cases N with | fn hla hlb hha hhb=>
    rename_i va vb
    simp only[ao,oH]at J
    have I:=A (us:=va.toList) ha' (λr L=>J r (.inl L)) ⟨by simpa using hla,λi x u B G=>hha i x u B (by simpa using G)⟩
    have O:=A (us:=vb.toList) hb' (λr L=>J r (.inr L)) ⟨by simpa using hlb,λi x u B G=>hhb i x u B (by simpa using G)⟩
    exact .fn (by simpa using I.1) (by simpa using O.1) (λi c u S G=>I.2 i c u S (by simpa using G)) (λi c u S G=>O.2 i c u S (by simpa using G))
   ·cases h
  | ifc t x=>
   simp only[view,bN]at h
   obtain⟨y,hy,rfl⟩:=h
   cases N with | ifc N=>
   exact .ifc (ih n (by omega) x y _ hy (by simpa [ao] using J) N)
  | yld=>simp[view]at h
  | mp=>simp[view]at h
  | ch=>simp[view]at h
  | lp=>simp[view]at h
def wV(g:cX)(R:List Ref):cX:=λr=>if r∈R then (g r).map λk => { k with kq:=true} else g r
theorem BP{M ι g w R}(D:iv M ι g w):iv (nK M ι g w R) ι (wV g R) w/\vp M ι g w (nK M ι g w R) ι (wV g R) w:=by
 have c : ∀ {r k},wV g R r=some k ->∃a,g r=some a/\k = { a with kq:=k.kq}/\(r∈R->k.kq=true)/\(a.kq=true->k.kq=true):=by
  intro r k h
  unfold wV at h
  split at h
  ·simp only[bN]at h
   obtain⟨a,H,rfl⟩:=h
   exact⟨a,H,rfl,λ_=>rfl,λ_=>rfl⟩
  ·rename_i E
   exact⟨k,h,rfl,λI=>absurd I E,λh=>h⟩
 refine⟨⟨AD D.mem,?_,?_⟩,⟨rfl,rfl,rfl,de _,λ_ _ _=>rfl,xE,λ_ _ h=>h,?_,?_⟩⟩
 ·intro r k h
  obtain⟨a,t,F,E,hm⟩:=c h
  obtain⟨l,y,d⟩:=D.live r a t
  refine⟨l,y,?_⟩
  have v:k.es=a.es:=by rw[F]
  have n:k.esz=a.esz:=by rw[F]
  have J:k.arr=a.arr:=by rw[F]
  have p : ∀o x,nK M ι g w R l.b o=some x->k.kq=true/\o<k.es.length * k.esz:=by
   intro o x z
   rw[v,n]
   rcases Dl z with h | ⟨r',A,k',B,f,m,q,C⟩
   ·exact⟨hm (d.frozen o x h).1,(d.frozen o x h).2⟩
   ·have e:=D.inj r' r k' a B l f t m y q
    subst e
    rw[t]at f;cases f
    exact⟨E A,C⟩
  refine⟨by rw[n];exact d.esz,λG=>?_,λG=>?_,p⟩
  ·replace d:=d.cellsOk (by rw[<-n];exact G)
   obtain⟨arr,T,fz,L,P,N,Q⟩:=d.heap
   refine⟨by rw[n];exact d.esz,⟨arr,T,fz,L,by rw[n];exact P,by rw[n];exact N,?_⟩,by rw[v];exact d.len,by rw[v,n];exact d.cells,p⟩
   intro i j e x K z
   rw[v]at K
   rw[n]
   obtain⟨u,hu,C,O⟩:=Q i j e x K z
   refine⟨u,hu,C,?_⟩
   have:k.map ι=a.map ι:=by unfold bw.map;rw[J]
   rw[this]
   exact O.mono xE _ (λ_ _ h=>h)
  ·exact((d.objOk (by rw[<-n];exact G)).mono (M':=nK M ι g w R) xE (λ_ _ h=>h) rfl).same n J v
 ·intro r r' k k' l B h I y m d
  obtain⟨a,t,_⟩:=c h
  obtain⟨S,v,_⟩:=c I
  exact D.inj r r' _ _ l B t v y m d
 ·intro r k l h y
  obtain⟨a,t,_⟩:=c h
  exact .inr ⟨r,a,l,t,y,rfl⟩
 ·intro b o x z
  rcases Dl z with h | ⟨r',A,k',B,f,m,q,C⟩
  ·exact .inl h
  ·exact .inr (.inr ⟨r',k',B,f,m,q⟩)
theorem OM{g:cX}{R:List Ref}(h:kB g R=true):wV g R=g:=by
 funext r
 unfold wV
 split
 ·rename_i a
  simp only[kB,gy]at h
  have:=h r a
  cases b:g r with
  | none=>rfl
  | some k=>
   rw[b]at this
   simp at this
   simp[<-this]
 ·rfl
end Go.Ab
