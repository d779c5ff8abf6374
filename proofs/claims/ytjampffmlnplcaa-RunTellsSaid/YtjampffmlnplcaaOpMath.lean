/-
  Operations: what the functions compute. No statement of a seat is proved here.
-/
import Derived.Test.YtjampffmlnplcaaIdMath
set_option linter.unusedVariables false
set_option linter.unusedSimpArgs false
namespace Go.Ab
structure Lab where
 lv:UInt8
 cats:UInt32
deriving DecidableEq
structure Opn where
 kind:UInt8
 h:Han
 serial:Int
 s:Spn
 a:Idd
 to:Lab
 l:List Int
deriving DecidableEq
def eQ(a:Idd):Bool:=decide (a.h.lv=0)&&decide (a.h.cats=0)&&decide (a.h.num=0)&&decide (a.n=0)
def mM(t:Lab):Bool:=decide (t.lv=0)&&decide (t.cats=0)
def q0(a b:Han):Bool:=decide (a.lv=b.lv)&&decide (a.cats=b.cats)&&decide (a.num=b.num)
theorem uB(a:Idd):eQ a=true↔a=th:=by
 obtain⟨⟨a,b,c⟩,d⟩:=a
 simp[eQ,th,and_assoc]
def pI(o:Opn):Bool:=eQ o.a&&decide (o.l=[])
def insB(o:Opn):Bool:=mM o.to&&((eQ o.a||idB o.a)&&(q0 o.s.f.h o.h&&(decide ((o.l.length:Int)=o.s.many)&&rowB o.l)))
def delB(o:Opn):Bool:=mM o.to&&pI o
def raiB(o:Opn):Bool:=pI o&&decide (o.to.lv≤15)
def mayB(o:Opn):Bool:=if o.kind=1 then insB o else if o.kind=2 then delB o else if o.kind=3 then raiB o else false
def opB(o:Opn):Bool:=qp o.h&&(decide (1≤o.serial)&&(decide (o.serial<16777216)&&(fm o.s&&mayB o)))
theorem o8{P:Program}{t:TypeId}(h1:(tagg P t).isSome=true)(h2:(aN P t).isSome=true)(cs:List AV)(off:Nat):mB P t cs off=xL cs off ((aN P t).getD 0) ((tagg P t).getD false):=by
 obtain⟨b,hb⟩:=Option.isSome_iff_exists.1 h1
 obtain⟨n,hn⟩:=Option.isSome_iff_exists.1 h2
 simp only[mB,hb,hn,Option.getD_some]
 cases b<;>rfl
theorem nf{P:Program}{t:TypeId}(h1:((tarr P t).bind fun p=>aN P p.2).isSome=true)(cs:List AV)(k:UInt8)(hk:k.toNat<((tarr P t).getD (0,0)).1) :
 kV P t (some (.agg cs)) (some (a8 k))=qVal (mB P ((tarr P t).getD (0,0)).2 cs (k.toNat * (aN P ((tarr P t).getD (0,0)).2).getD 0)):=by
 cases ht:tarr P t with
 | none=>rw[ht]at h1;simp at h1
 | some p =>
  obtain⟨n,e⟩:=p
  rw[ht]at h1 hk
  simp only[Option.bind_some,Option.getD_some]at h1 hk
  obtain⟨s,hs⟩:=Option.isSome_iff_exists.1 h1
  unfold kV a8
  simp only[Option.bind_some,lT,ht,hs,Option.getD_some]
  rw[if_pos (by omega)]
  simp
@[simp] theorem BV(r:Ref)(n:Nat)(f:Fn)(a b:List AV)(bs:List Blk):aE r n (.fn f a b) bs=(.fn f a b,bs):=by cases n<;>rfl
end Go.Ab
