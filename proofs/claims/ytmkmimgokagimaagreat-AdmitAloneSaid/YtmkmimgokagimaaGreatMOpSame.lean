/-
  Bytes copied and read: what these functions answer. No statement of a seat is proved here.
-/
import Derived.Test.YtmkmimgokagimaaGreatOpBytes
import Derived.Test.YtmkmimgokagimaaGreatMOpFns
set_option linter.unusedVariables false
set_option linter.unusedSimpArgs false
set_option linter.unusedSectionVars false
set_option linter.unnecessarySimpa false
set_option maxRecDepth 100000
namespace Go.Proofs.YtmkmimgokagimaaGreat
open Go.Ab
attribute [local simp] bJ bw bt bG bF cL kN bX bx bD cR cQ cr bY bh ct List.take_of_length_le
end Go.Proofs.YtmkmimgokagimaaGreat
namespace Go.Proofs.YtmkmimgokagimaaGreat
open Go.Ab
attribute [local simp] bJ bw bt bG bF cL kN bX bx bD cR cQ cr bY bh ct List.take_of_length_le
theorem CV{f:FuncId}(hm:(env.mode f == 2)=true)(dep:Nat)(H:ad)(r:Ref)(first args captured:List AV) :
 bo env true (bj env) (bO env dep) H r (some (.fn (.func f) first captured)) args=bO env dep (.fn f) (first++args++captured) H:=by
 have h:env.mode f=2:=by simpa using hm
 simp[bo,iI,lE,bg,DJ,h]
end Go.Proofs.YtmkmimgokagimaaGreat
namespace Go.Proofs.YtmkmimgokagimaaGreat
open Go.Ab
def qZ(o:bz):List UInt8:=rf o++(if o.kind=1 then yC o.a++eY o.l else if o.kind=3 then o.to.lv :: be 4 o.to.cats.toNat else [])
theorem La(o:bz):(rf o).length=24:=by simp[rf]
theorem Ct{o:bz}(h:la o=true):1≤o.serial∧o.serial<16777216∧(1≤o.s.f.n∧o.s.f.n≤1099511627776)∧1≤o.s.many∧o.s.many≤64 ∧
 ((o.kind=1∧o.to=⟨0,0⟩∧(o.a=Ar∨(1≤o.a.n∧o.a.n≤1099511627776))∧(o.l.length:Int)=o.s.many∧JU o.l=true)∨(o.kind=2∧o.to=⟨0,0⟩∧o.a=Ar∧o.l=[])∨(o.kind=3∧o.a=Ar∧o.l=[]∧o.to.lv≤15)):=by
 simp only[la,Bool.and_eq_true,decide_eq_true_eq]at h
 obtain⟨hh,h1,h2,hs,hm⟩:=h
 have hn:=kV hs
 have hi:=KG (P2 hs)
 refine⟨h1,h2,hi,hn.2.1,hn.2.2.1,?_⟩
 have hz : ∀t:jS,C3 t=true→t=⟨0,0⟩:=by
  rintro⟨a,b⟩ h;simp[C3]at h;rw[h.1,h.2]
 unfold Kl at hm
 split at hm
 ·rename_i k1
  simp only[Kz,Bool.and_eq_true,Bool.or_eq_true,decide_eq_true_eq]at hm
  refine .inl ⟨k1,hz _ hm.1,?_,hm.2.2.2.1,hm.2.2.2.2⟩
  rcases hm.2.1 with e | e
  ·exact .inl ((Ca _).1 e)
  ·exact .inr (KG e)
 ·split at hm
  ·rename_i k2
   simp only[RH,Gb,Bool.and_eq_true,decide_eq_true_eq]at hm
   exact .inr (.inl ⟨k2,hz _ hm.1,(Ca _).1 hm.2.1,hm.2.2⟩)
  ·split at hm
   ·rename_i k3
    simp only[Ow,Gb,Bool.and_eq_true,decide_eq_true_eq]at hm
    exact .inr (.inr ⟨k3,(Ca _).1 hm.1.1,hm.1.2,hm.2⟩)
   ·cases hm
def JF(o:bz):Nat:=if o.kind=1 then 37+4 * o.s.many.toNat else if o.kind=3 then 29 else 24
theorem MS(a:eJ):(yC a).length=13:=by unfold yC;split<;>simp
theorem Ke{o:bz}(h:la o=true):(qZ o).length=JF o:=by
 have hp:=Ct h
 unfold qZ JF
 rw[List.length_append,La]
 rcases hp.2.2.2.2.2 with ⟨k,_,_,hl,_⟩ | ⟨k,_⟩ | ⟨k,_⟩
 ·rw[if_pos k,if_pos k,List.length_append,MS,wj];omega
 ·rw[k];rfl
 ·rw[k];simp
end Go.Proofs.YtmkmimgokagimaaGreat
namespace Go.Proofs.YtmkmimgokagimaaGreat
open Go.Ab
attribute [local simp] bJ bw bt bG bF cL kN bX bx bD cR cQ cr bY bh ct List.take_of_length_le
theorem JE{o:bz}(h:la o=true):24≤JF o∧JF o≤293:=by
 have hp:=Ct h
 unfold JF
 split
 ·omega
 ·split<;>omega
def V6(o:bz):AV:=if la o then .tup [.ck 1 (iB (qZ o)) none,aI 0] else .tup [cp,aI 8]
theorem SV(ba:UInt8)(aO:UInt8)(aN:UInt32)(aT:UInt8)(aV:Int)(aX:UInt8)(aW:UInt32)(aY:UInt8)(aZ:Int)(an:Int)(ay:UInt8)(ax:UInt32)(aw:UInt8)(au:Int)(aA:UInt8)(az:UInt32){x:AV}{l:List Int}(hx:Sl 1 (rows l) x)(hl:l.length<2000000):bj env 163 [.agg [a8 ba,a8 aO,aF aN,a8 aT,aI aV,a8 aX,aF aW,a8 aY,aI aZ,aI an,a8 ay,aF ax,a8 aw,aI au,a8 aA,aF az,x]]=some (V6 (⟨ba,⟨aO,aN,aT⟩,aV,⟨⟨⟨aX,aW,aY⟩,aZ⟩,an⟩,⟨⟨ay,ax,aw⟩,au⟩,⟨aA,az⟩,l⟩:bz)):=by
 unfold V6
 cases ho:la (⟨ba,⟨aO,aN,aT⟩,aV,⟨⟨⟨aX,aW,aY⟩,aZ⟩,an⟩,⟨⟨ay,ax,aw⟩,au⟩,⟨aA,az⟩,l⟩:bz) with
 | false=>rw[Qp ba aO aN aT aV aX aW aY aZ an ay ax aw au aA az hx hl ho];rfl
 | true =>
  have hp:=Ct ho
  rw[if_pos rfl]
  unfold qZ
  rcases hp.2.2.2.2.2 with ⟨hk,_⟩ | ⟨hk,_⟩ | ⟨hk,_⟩
  ·rw[Qs ba aO aN aT aV aX aW aY aZ an ay ax aw au aA az hx hl ho hk,if_pos hk]
  ·simp only at hk
   rw[Qr ba aO aN aT aV aX aW aY aZ an ay ax aw au aA az hx hl ho hk,if_neg (by simp[hk]),if_neg (by simp[hk]),List.append_nil]
  ·simp only at hk
   rw[Qq ba aO aN aT aV aX aW aY aZ an ay ax aw au aA az hx hl ho hk,if_neg (by simp[hk]),if_pos hk]
end Go.Proofs.YtmkmimgokagimaaGreat
namespace Go.Proofs.YtmkmimgokagimaaGreat
open Go.Ab
attribute [local simp] bJ bw bt bG bF cL kN bX bx bD cR cQ cr bY bh ct List.take_of_length_le
def Fz(t:Int):List Int→Nat→Int
 | [],_ => -1
 | a :: l,k=>if t=a then k else Fz t l (k+1)
theorem Rq(t:Int)(l:List Int) : ∀k:Nat,(0≤Fz t l k↔t∈l):=by
 induction l with
 | nil=>intro k;simp[Fz]
 | cons a l ih =>
  intro k
  unfold Fz
  by_cases h:t=a
  ·simp[h]
  ·rw[if_neg h,ih];simp[h]
theorem KA{x0:AV}{Q:AV→ad→Prop}{l:List Int}(hx:Sl 1 (rows l) x0)(hl:l.length<4611686018427387904){t:Int}{H:ad} :
 ∀(s:List Int)(k:Nat)(i:Int),l.drop k=s→k≤l.length→i=k→(∀y,y=aI (Fz t s k)→Q y H) →
 b7 env Tryz.f214 0 eC [(8,aI i),(0,x0),(1,aR t),(7,aI l.length)] H Q:=by
 intro s
 induction s with
 | nil =>
  rintro k i hs hk rfl hQ
  obtain rfl:=drop_nil hs hk
  refine jt _ _ _ _ _ _ fun g=>?_
  simp[ah,ai,ae,af,ab, *,eG]
  all_goals exact hQ _ rfl
 | cons a s ih =>
  rintro k i hs hk rfl hQ
  obtain⟨hlt,hg,hs',hg'⟩:=drop_cons hs
  refine jt _ _ _ _ _ _ fun g=>?_
  have e3:=IntWalk.i64_in ((k:Int)+1) (by omega)
  by_cases hA:t=a
  ·have e:Fz t (a :: s) k=k:=by unfold Fz;rw[if_pos hA]
   simp[ah,ai,ae,af,ab, *,eG,hx.idx,rows,aR]
   all_goals exact hQ _ (by simp[e])
  ·have e:Fz t (a :: s) k=Fz t s (k+1):=by rw[Fz,if_neg hA]
   have ih':=ih (k+1) ((k:Int)+1) hs' (by omega) (by simp) (fun y ey=>hQ y (by rw[ey,e]))
   clear ih hQ e
   simp[ah,ai,ae,af,ab, *,eG,hx.idx,rows,aR]
   exact ih'
section
variable{x:AV}{l:List Int}(hx:Sl 1 (rows l) x)(hl:l.length<4611686018427387904)
include hx hl
theorem Qu(t:Int):bj env 214 [x,aR t]=some (aI (Fz t l 0)):=by
 refine aG (fn:=Tryz.f214) (c:=gq) rfl (by kernel_rfl) (by kernel_rfl) (by kernel_rfl) (by kernel_rfl) ?_;refine pO _ _ _ _ fun g=>?_
 have h:=hx.len
 simp[ah,ai,ae,af,ab, *,kF]
 exact KA hx hl l 0 _ rfl (by omega) rfl (fun y e=>by simp[e])
theorem JP(t:Int):bj env 176 [x,aR t]=some (aB (decide (t∈l))):=by
 refine aG (fn:=Tryz.f176) (c:=jg) rfl (by kernel_rfl) (by kernel_rfl) (by kernel_rfl) (by kernel_rfl) ?_;refine oF _ _ _ _ fun g=>?_
 have h:=Qu hx hl t
 have hr:=hx.r
 have e:=Rq t l 0
 simp[ah,ai,ae,af,ab, *,jm]
end
theorem Ht(ba:UInt8)(aO:UInt8)(aN:UInt32)(aT:UInt8)(aV:Int)(aX:UInt8)(aW:UInt32)(aY:UInt8)(aZ:Int)(an:Int)(ay:UInt8)(ax:UInt32)(aw:UInt8)(au:Int)(aA:UInt8)(az:UInt32){x:AV}{l:List Int}(hx:Sl 1 (rows l) x)(hl:l.length<4611686018427387904):bj env 121 [.agg [a8 ba,a8 aO,aF aN,a8 aT,aI aV,a8 aX,aF aW,a8 aY,aI aZ,aI an,a8 ay,aF ax,a8 aw,aI au,a8 aA,aF az,x]]=some (aB (!decide (-1∈l))):=by
 refine aG (fn:=Tryz.f121) (c:=Dn) rfl (by kernel_rfl) (by kernel_rfl) (by kernel_rfl) (by kernel_rfl) ?_;refine Js _ _ _ fun g=>?_
 have h:=JP hx hl (-1)
 have hr:=hx.r
 unfold aR at h
 simp[ah,ai,ae,af,ab, *,Dt]
def C6(a b:bz):Bool:=decide (a.kind=b.kind)&&((decide (a.h.lv=b.h.lv)&&decide (a.h.cats=b.h.cats)&&decide (a.h.num=b.h.num))&&(decide (a.serial=b.serial) &&
 ((decide (a.s.f.h.lv=b.s.f.h.lv)&&decide (a.s.f.h.cats=b.s.f.h.cats)&&decide (a.s.f.h.num=b.s.f.h.num)&&decide (a.s.f.n=b.s.f.n)&&decide (a.s.many=b.s.many)) &&
 ((decide (a.a.h.lv=b.a.h.lv)&&decide (a.a.h.cats=b.a.h.cats)&&decide (a.a.h.num=b.a.h.num)&&decide (a.a.n=b.a.n))&&((decide (a.to.lv=b.to.lv)&&decide (a.to.cats=b.to.cats))&&decide (a.l=b.l))))))
theorem Qo(ba:UInt8)(aO:UInt8)(aN:UInt32)(aT:UInt8)(aV:Int)(aX:UInt8)(aW:UInt32)(aY:UInt8)(aZ:Int)(an:Int)(ay:UInt8)(ax:UInt32)(aw:UInt8)(au:Int)(aA:UInt8)(az:UInt32)(kg:UInt8)(kf:UInt8)(kM:UInt32)(iE:UInt8)(Gp:Int)(Gn:UInt8)(Gm:UInt32)(Gl:UInt8)(Gk:Int)(tf:Int)(ta:UInt8)(s9:UInt32)(s8:UInt8)(s7:Int)(sZ:UInt8)(sY:UInt32){x y:AV}{l m:List Int}(hx:Sl 1 (rows l) x)(hy:Sl 1 (rows m) y)(hl:l.length<1000000000):bj env 211 [.agg [a8 ba,a8 aO,aF aN,a8 aT,aI aV,a8 aX,aF aW,a8 aY,aI aZ,aI an,a8 ay,aF ax,a8 aw,aI au,a8 aA,aF az,x],.agg [a8 kg,a8 kf,aF kM,a8 iE,aI Gp,a8 Gn,aF Gm,a8 Gl,aI Gk,aI tf,a8 ta,aF s9,a8 s8,aI s7,a8 sZ,aF sY,y]]=some (aB (C6 (⟨ba,⟨aO,aN,aT⟩,aV,⟨⟨⟨aX,aW,aY⟩,aZ⟩,an⟩,⟨⟨ay,ax,aw⟩,au⟩,⟨aA,az⟩,l⟩:bz) (⟨kg,⟨kf,kM,iE⟩,Gp,⟨⟨⟨Gn,Gm,Gl⟩,Gk⟩,tf⟩,⟨⟨ta,s9,s8⟩,s7⟩,⟨sZ,sY⟩,m⟩:bz))):=by
 refine aG (fn:=Tryz.f211) (c:=F8) rfl (by kernel_rfl) (by kernel_rfl) (by kernel_rfl) (by kernel_rfl) ?_;refine Ly _ _ _ _ fun g=>?_
 have hq:=Oe hx hy (by omega)
 have hr:=hx.r
 have hr2:=hy.r
 unfold C6
 cases c1:decide (ba=kg) with
 | false=>simp[ah,ai,ae,af,ab, *,mF,ke,eE]
 | true =>
 cases c2:(decide (aO=kf)&&decide (aN=kM)&&decide (aT=iE)) with
 | false=>simp[ah,ai,ae,af,ab, *,mF,ke,eE]
 | true =>
 cases c3:decide (aV=Gp) with
 | false=>simp[ah,ai,ae,af,ab, *,mF,ke,eE]
 | true =>
 cases c4:(decide (aX=Gn)&&decide (aW=Gm)&&decide (aY=Gl)&&decide (aZ=Gk)&&decide (an=tf)) with
 | false=>simp[ah,ai,ae,af,ab, *,mF,ke,eE]
 | true =>
 cases c5:(decide (ay=ta)&&decide (ax=s9)&&decide (aw=s8)&&decide (au=s7)) with
 | false=>simp[ah,ai,ae,af,ab, *,mF,ke,eE]
 | true =>
 cases c6:(decide (aA=sZ)&&decide (az=sY)) with
 | false=>simp[ah,ai,ae,af,ab, *,mF,ke,eE]
 | true=>simp[ah,ai,ae,af,ab, *,mF,ke,eE]
end Go.Proofs.YtmkmimgokagimaaGreat
