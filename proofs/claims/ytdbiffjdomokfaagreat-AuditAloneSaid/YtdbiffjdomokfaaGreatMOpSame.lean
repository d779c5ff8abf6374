/-
  Bytes copied and read: what these functions answer. No statement of a seat is proved here.
-/
import Derived.Test.YtdbiffjdomokfaaGreatMOpBytes
set_option linter.unusedVariables false
set_option linter.unusedSimpArgs false
set_option linter.unusedSectionVars false
set_option linter.unnecessarySimpa false
set_option maxRecDepth 100000
namespace Go.Proofs.YtdbiffjdomokfaaGreat
open Go.Ab
attribute [local simp] bD bp bl bC bB cV lj bP bt bA dc db cg bR aV cm List.take_of_length_le
end Go.Proofs.YtdbiffjdomokfaaGreat
namespace Go.Proofs.YtdbiffjdomokfaaGreat
open Go.Ab
attribute [local simp] bD bp bl bC bB cV lj bP bt bA dc db cg bR aV cm List.take_of_length_le
theorem Ak{f:FuncId}(hm:(env.mode f == 2)=true)(dep:Nat)(H:ab)(r:Ref)(first args captured:List AV) :
 bo env true (bj env) (bV env dep) H r (some (.fn (.func f) first captured)) args=bV env dep (.fn f) (first++args++captured) H:=by
 have h:env.mode f=2:=by simpa using hm
 simp[bo,ik,kJ,bm,A3,h]
end Go.Proofs.YtdbiffjdomokfaaGreat
namespace Go.Proofs.YtdbiffjdomokfaaGreat
open Go.Ab
def pQ(o:bG):List UInt8:=pX o++(if o.kind=1 then vL o.a++eP o.l else if o.kind=3 then o.to.lv :: be 4 o.to.cats.toNat else [])
theorem Im(o:bG):(pX o).length=24:=by simp[pX]
theorem zQ{o:bG}(h:mT o=true):1≤o.serial∧o.serial<16777216∧(1≤o.s.f.n∧o.s.f.n≤1099511627776)∧1≤o.s.many∧o.s.many≤64 ∧
 ((o.kind=1∧o.to=⟨0,0⟩∧(o.a=Au∨(1≤o.a.n∧o.a.n≤1099511627776))∧(o.l.length:Int)=o.s.many∧GU o.l=true)∨(o.kind=2∧o.to=⟨0,0⟩∧o.a=Au∧o.l=[])∨(o.kind=3∧o.a=Au∧o.l=[]∧o.to.lv≤15)):=by
 simp only[mT,Bool.and_eq_true,decide_eq_true_eq]at h
 obtain⟨hh,h1,h2,hs,hm⟩:=h
 have hn:=ko hs
 have hi:=HH (M4 hs)
 refine⟨h1,h2,hi,hn.2.1,hn.2.2.1,?_⟩
 have hz : ∀t:jz,At t=true→t=⟨0,0⟩:=by
  rintro⟨a,b⟩ h;simp[At]at h;rw[h.1,h.2]
 unfold Jp at hm
 split at hm
 ·rename_i k1
  simp only[Jz,Bool.and_eq_true,Bool.or_eq_true,decide_eq_true_eq]at hm
  refine .inl ⟨k1,hz _ hm.1,?_,hm.2.2.2.1,hm.2.2.2.2⟩
  rcases hm.2.1 with e | e
  ·exact .inl ((zA _).1 e)
  ·exact .inr (HH e)
 ·split at hm
  ·rename_i k2
   simp only[OP,Dc,Bool.and_eq_true,decide_eq_true_eq]at hm
   exact .inr (.inl ⟨k2,hz _ hm.1,(zA _).1 hm.2.1,hm.2.2⟩)
  ·split at hm
   ·rename_i k3
    simp only[Lz,Dc,Bool.and_eq_true,decide_eq_true_eq]at hm
    exact .inr (.inr ⟨k3,(zA _).1 hm.1.1,hm.1.2,hm.2⟩)
   ·cases hm
def GF(o:bG):Nat:=if o.kind=1 then 37+4 * o.s.many.toNat else if o.kind=3 then 29 else 24
theorem J6(a:eE):(vL a).length=13:=by unfold vL;split<;>simp
theorem Hc{o:bG}(h:mT o=true):(pQ o).length=GF o:=by
 have hp:=zQ h
 unfold pQ GF
 rw[List.length_append,Im]
 rcases hp.2.2.2.2.2 with ⟨k,_,_,hl,_⟩ | ⟨k,_⟩ | ⟨k,_⟩
 ·rw[if_pos k,if_pos k,List.length_append,J6,tv];omega
 ·rw[k];rfl
 ·rw[k];simp
end Go.Proofs.YtdbiffjdomokfaaGreat
namespace Go.Proofs.YtdbiffjdomokfaaGreat
open Go.Ab
attribute [local simp] bD bp bl bC bB cV lj bP bt bA dc db cg bR aV cm List.take_of_length_le
theorem GD{o:bG}(h:mT o=true):24≤GF o∧GF o≤293:=by
 have hp:=zQ h
 unfold GF
 split
 ·omega
 ·split<;>omega
def S7(o:bG):AV:=if mT o then .tup [.cw 1 (ia (pQ o)) none,aI 0] else .tup [cP,aI 8]
theorem Qc(bh:UInt8)(aQ:UInt8)(aP:UInt32)(aW:UInt8)(aY:Int)(bc:UInt8)(ba:UInt32)(bf:UInt8)(bg:Int)(au:Int)(az:UInt8)(ay:UInt32)(ax:UInt8)(aw:Int)(aC:UInt8)(aA:UInt32){x:AV}{l:List Int}(hx:Sl 1 (rows l) x)(hl:l.length<2000000):bj env 99 [.agg [a8 bh,a8 aQ,aG aP,a8 aW,aI aY,a8 bc,aG ba,a8 bf,aI bg,aI au,a8 az,aG ay,a8 ax,aI aw,a8 aC,aG aA,x]]=some (S7 (⟨bh,⟨aQ,aP,aW⟩,aY,⟨⟨⟨bc,ba,bf⟩,bg⟩,au⟩,⟨⟨az,ay,ax⟩,aw⟩,⟨aC,aA⟩,l⟩:bG)):=by
 unfold S7
 cases ho:mT (⟨bh,⟨aQ,aP,aW⟩,aY,⟨⟨⟨bc,ba,bf⟩,bg⟩,au⟩,⟨⟨az,ay,ax⟩,aw⟩,⟨aC,aA⟩,l⟩:bG) with
 | false=>rw[Nm bh aQ aP aW aY bc ba bf bg au az ay ax aw aC aA hx hl ho];rfl
 | true =>
  have hp:=zQ ho
  rw[if_pos rfl]
  unfold pQ
  rcases hp.2.2.2.2.2 with ⟨hk,_⟩ | ⟨hk,_⟩ | ⟨hk,_⟩
  ·rw[Np bh aQ aP aW aY bc ba bf bg au az ay ax aw aC aA hx hl ho hk,if_pos hk]
  ·simp only at hk
   rw[No bh aQ aP aW aY bc ba bf bg au az ay ax aw aC aA hx hl ho hk,if_neg (by simp[hk]),if_neg (by simp[hk]),List.append_nil]
  ·simp only at hk
   rw[Nn bh aQ aP aW aY bc ba bf bg au az ay ax aw aC aA hx hl ho hk,if_neg (by simp[hk]),if_pos hk]
end Go.Proofs.YtdbiffjdomokfaaGreat
namespace Go.Proofs.YtdbiffjdomokfaaGreat
open Go.Ab
attribute [local simp] bD bp bl bC bB cV lj bP bt bA dc db cg bR aV cm List.take_of_length_le
def CA(t:Int):List Int→Nat→Int
 | [],_ => -1
 | a :: l,k=>if t=a then k else CA t l (k+1)
theorem Ox(t:Int)(l:List Int) : ∀k:Nat,(0≤CA t l k↔t∈l):=by
 induction l with
 | nil=>intro k;simp[CA]
 | cons a l ih =>
  intro k
  unfold CA
  by_cases h:t=a
  ·simp[h]
  ·rw[if_neg h,ih];simp[h]
theorem HB{x0:AV}{Q:AV→ab→Prop}{l:List Int}(hx:Sl 1 (rows l) x0)(hl:l.length<4611686018427387904){t:Int}{H:ab} :
 ∀(s:List Int)(k:Nat)(i:Int),l.drop k=s→k≤l.length→i=k→(∀y,y=aI (CA t s k)→Q y H) →
 bT env Tryz.f140 0 ej [(8,aI i),(0,x0),(1,aR t),(7,aI l.length)] H Q:=by
 intro s
 induction s with
 | nil =>
  rintro k i hs hk rfl hQ
  obtain rfl:=drop_nil hs hk
  refine jc _ _ _ _ _ _ fun g=>?_
  simp[ah,ai,ae,af,ad, *,eu]
  all_goals exact hQ _ rfl
 | cons a s ih =>
  rintro k i hs hk rfl hQ
  obtain⟨hlt,hg,hs',hg'⟩:=drop_cons hs
  refine jc _ _ _ _ _ _ fun g=>?_
  have e3:=IntWalk.i64_in ((k:Int)+1) (by omega)
  by_cases hA:t=a
  ·have e:CA t (a :: s) k=k:=by unfold CA;rw[if_pos hA]
   simp[ah,ai,ae,af,ad, *,eu,hx.idx,rows,aR]
   all_goals exact hQ _ (by simp[e])
  ·have e:CA t (a :: s) k=CA t s (k+1):=by rw[CA,if_neg hA]
   have ih':=ih (k+1) ((k:Int)+1) hs' (by omega) (by simp) (fun y ey=>hQ y (by rw[ey,e]))
   clear ih hQ e
   simp[ah,ai,ae,af,ad, *,eu,hx.idx,rows,aR]
   exact ih'
section
variable{x:AV}{l:List Int}(hx:Sl 1 (rows l) x)(hl:l.length<4611686018427387904)
include hx hl
theorem Ns(t:Int):bj env 140 [x,aR t]=some (aI (CA t l 0)):=by
 refine aK (fn:=Tryz.f140) (c:=gf) rfl (by kernel_rfl) (by kernel_rfl) (by kernel_rfl) (by kernel_rfl) ?_;refine oG _ _ _ _ fun g=>?_
 have h:=hx.len
 simp[ah,ai,ae,af,ad, *,jQ]
 exact HB hx hl l 0 _ rfl (by omega) rfl (fun y e=>by simp[e])
theorem GP(t:Int):bj env 122 [x,aR t]=some (aB (decide (t∈l))):=by
 refine aK (fn:=Tryz.f122) (c:=iP) rfl (by kernel_rfl) (by kernel_rfl) (by kernel_rfl) (by kernel_rfl) ?_;refine nf _ _ _ _ fun g=>?_
 have h:=Ns hx hl t
 have hr:=hx.r
 have e:=Ox t l 0
 simp[ah,ai,ae,af,ad, *,iV]
end
theorem Ln(bh:UInt8)(aQ:UInt8)(aP:UInt32)(aW:UInt8)(aY:Int)(bc:UInt8)(ba:UInt32)(bf:UInt8)(bg:Int)(au:Int)(az:UInt8)(ay:UInt32)(ax:UInt8)(aw:Int)(aC:UInt8)(aA:UInt32){x:AV}{l:List Int}(hx:Sl 1 (rows l) x)(hl:l.length<4611686018427387904):bj env 100 [.agg [a8 bh,a8 aQ,aG aP,a8 aW,aI aY,a8 bc,aG ba,a8 bf,aI bg,aI au,a8 az,aG ay,a8 ax,aI aw,a8 aC,aG aA,x]]=some (aB (!decide (-1∈l))):=by
 refine aK (fn:=Tryz.f100) (c:=AM) rfl (by kernel_rfl) (by kernel_rfl) (by kernel_rfl) (by kernel_rfl) ?_;refine Gs _ _ _ fun g=>?_
 have h:=GP hx hl (-1)
 have hr:=hx.r
 unfold aR at h
 simp[ah,ai,ae,af,ad, *,AQ]
def Kf(a b:bG):Bool:=decide (a.kind=b.kind)&&((decide (a.h.lv=b.h.lv)&&decide (a.h.cats=b.h.cats)&&decide (a.h.num=b.h.num))&&(decide (a.serial=b.serial) &&
 ((decide (a.s.f.h.lv=b.s.f.h.lv)&&decide (a.s.f.h.cats=b.s.f.h.cats)&&decide (a.s.f.h.num=b.s.f.h.num)&&decide (a.s.f.n=b.s.f.n)&&decide (a.s.many=b.s.many)) &&
 ((decide (a.a.h.lv=b.a.h.lv)&&decide (a.a.h.cats=b.a.h.cats)&&decide (a.a.h.num=b.a.h.num)&&decide (a.a.n=b.a.n))&&((decide (a.to.lv=b.to.lv)&&decide (a.to.cats=b.to.cats))&&decide (a.l=b.l))))))
theorem Nl(bh:UInt8)(aQ:UInt8)(aP:UInt32)(aW:UInt8)(aY:Int)(bc:UInt8)(ba:UInt32)(bf:UInt8)(bg:Int)(au:Int)(az:UInt8)(ay:UInt32)(ax:UInt8)(aw:Int)(aC:UInt8)(aA:UInt32)(lx:UInt8)(lu:UInt8)(lW:UInt32)(jx:UInt8)(PA:Int)(Pz:UInt8)(Py:UInt32)(Px:UInt8)(Pw:Int)(Eb:Int)(Ea:UInt8)(D9:UInt32)(D8:UInt8)(D7:Int)(D6:UInt8)(D5:UInt32){x y:AV}{l m:List Int}(hx:Sl 1 (rows l) x)(hy:Sl 1 (rows m) y)(hl:l.length<1000000000):bj env 123 [.agg [a8 bh,a8 aQ,aG aP,a8 aW,aI aY,a8 bc,aG ba,a8 bf,aI bg,aI au,a8 az,aG ay,a8 ax,aI aw,a8 aC,aG aA,x],.agg [a8 lx,a8 lu,aG lW,a8 jx,aI PA,a8 Pz,aG Py,a8 Px,aI Pw,aI Eb,a8 Ea,aG D9,a8 D8,aI D7,a8 D6,aG D5,y]]=some (aB (Kf (⟨bh,⟨aQ,aP,aW⟩,aY,⟨⟨⟨bc,ba,bf⟩,bg⟩,au⟩,⟨⟨az,ay,ax⟩,aw⟩,⟨aC,aA⟩,l⟩:bG) (⟨lx,⟨lu,lW,jx⟩,PA,⟨⟨⟨Pz,Py,Px⟩,Pw⟩,Eb⟩,⟨⟨Ea,D9,D8⟩,D7⟩,⟨D6,D5⟩,m⟩:bG))):=by
 refine aK (fn:=Tryz.f123) (c:=C9) rfl (by kernel_rfl) (by kernel_rfl) (by kernel_rfl) (by kernel_rfl) ?_;refine IJ _ _ _ _ fun g=>?_
 have hq:=Ll hx hy (by omega)
 have hr:=hx.r
 have hr2:=hy.r
 unfold Kf
 cases c1:decide (bh=lx) with
 | false=>simp[ah,ai,ae,af,ad, *,lL,lZ,gb]
 | true =>
 cases c2:(decide (aQ=lu)&&decide (aP=lW)&&decide (aW=jx)) with
 | false=>simp[ah,ai,ae,af,ad, *,lL,lZ,gb]
 | true =>
 cases c3:decide (aY=PA) with
 | false=>simp[ah,ai,ae,af,ad, *,lL,lZ,gb]
 | true =>
 cases c4:(decide (bc=Pz)&&decide (ba=Py)&&decide (bf=Px)&&decide (bg=Pw)&&decide (au=Eb)) with
 | false=>simp[ah,ai,ae,af,ad, *,lL,lZ,gb]
 | true =>
 cases c5:(decide (az=Ea)&&decide (ay=D9)&&decide (ax=D8)&&decide (aw=D7)) with
 | false=>simp[ah,ai,ae,af,ad, *,lL,lZ,gb]
 | true =>
 cases c6:(decide (aC=D6)&&decide (aA=D5)) with
 | false=>simp[ah,ai,ae,af,ad, *,lL,lZ,gb]
 | true=>simp[ah,ai,ae,af,ad, *,lL,lZ,gb]
end Go.Proofs.YtdbiffjdomokfaaGreat
