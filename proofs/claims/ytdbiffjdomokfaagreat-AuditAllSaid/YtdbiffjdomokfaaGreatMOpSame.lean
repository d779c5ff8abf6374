/-
  Bytes copied and read: what these functions answer. No statement of a seat is proved here.
-/
import Derived.Test.YtdbiffjdomokfaaGreatOpBytes
import Derived.Test.YtdbiffjdomokfaaGreatMOpFns
set_option linter.unusedVariables false
set_option linter.unusedSimpArgs false
set_option linter.unusedSectionVars false
set_option linter.unnecessarySimpa false
set_option maxRecDepth 100000
namespace Go.Proofs.YtdbiffjdomokfaaGreat
open Go.Ab
attribute [local simp] bD bq bo bF bE cZ ld bQ bx bA dx dw cg bT aY ct List.take_of_length_le
end Go.Proofs.YtdbiffjdomokfaaGreat
namespace Go.Proofs.YtdbiffjdomokfaaGreat
open Go.Ab
attribute [local simp] bD bq bo bF bE cZ ld bQ bx bA dx dw cg bT aY ct List.take_of_length_le
theorem zQ{f:FuncId}(hm:(env.mode f == 2)=true)(dep:Nat)(H:ab)(r:Ref)(first args captured:List AV) :
 bn env true (bj env) (bU env dep) H r (some (.fn (.func f) first captured)) args=bU env dep (.fn f) (first++args++captured) H:=by
 have h:env.mode f=2:=by simpa using hm
 simp[bn,ij,kE,bl,AA,h]
end Go.Proofs.YtdbiffjdomokfaaGreat
namespace Go.Proofs.YtdbiffjdomokfaaGreat
open Go.Ab
def pA(o:bR):List UInt8:=pG o++(if o.kind=1 then vk o.a++eO o.l else if o.kind=3 then o.to.lv :: be 4 o.to.cats.toNat else [])
theorem Hy(o:bR):(pG o).length=24:=by simp[pG]
theorem zq{o:bR}(h:qy o=true):1≤o.serial∧o.serial<16777216∧(1≤o.s.f.n∧o.s.f.n≤1099511627776)∧1≤o.s.many∧o.s.many≤64 ∧
 ((o.kind=1∧o.to=⟨0,0⟩∧(o.a=zZ∨(1≤o.a.n∧o.a.n≤1099511627776))∧(o.l.length:Int)=o.s.many∧Ge o.l=true)∨(o.kind=2∧o.to=⟨0,0⟩∧o.a=zZ∧o.l=[])∨(o.kind=3∧o.a=zZ∧o.l=[]∧o.to.lv≤15)):=by
 simp only[qy,Bool.and_eq_true,decide_eq_true_eq]at h
 obtain⟨hh,h1,h2,hs,hm⟩:=h
 have hn:=lF hs
 have hi:=G1 (Ma hs)
 refine⟨h1,h2,hi,hn.2.1,hn.2.2.1,?_⟩
 have hz : ∀t:mL,zY t=true→t=⟨0,0⟩:=by
  rintro⟨a,b⟩ h;simp[zY]at h;rw[h.1,h.2]
 unfold K0 at hm
 split at hm
 ·rename_i k1
  simp only[Ld,Bool.and_eq_true,Bool.or_eq_true,decide_eq_true_eq]at hm
  refine .inl ⟨k1,hz _ hm.1,?_,hm.2.2.2.1,hm.2.2.2.2⟩
  rcases hm.2.1 with e | e
  ·exact .inl ((y9 _).1 e)
  ·exact .inr (G1 e)
 ·split at hm
  ·rename_i k2
   simp only[N1,CG,Bool.and_eq_true,decide_eq_true_eq]at hm
   exact .inr (.inl ⟨k2,hz _ hm.1,(y9 _).1 hm.2.1,hm.2.2⟩)
  ·split at hm
   ·rename_i k3
    simp only[KJ,CG,Bool.and_eq_true,decide_eq_true_eq]at hm
    exact .inr (.inr ⟨k3,(y9 _).1 hm.1.1,hm.1.2,hm.2⟩)
   ·cases hm
def FZ(o:bR):Nat:=if o.kind=1 then 37+4 * o.s.many.toNat else if o.kind=3 then 29 else 24
theorem Jk(a:fl):(vk a).length=13:=by unfold vk;split<;>simp
theorem Gx{o:bR}(h:qy o=true):(pA o).length=FZ o:=by
 have hp:=zq h
 unfold pA FZ
 rw[List.length_append,Hy]
 rcases hp.2.2.2.2.2 with ⟨k,_,_,hl,_⟩ | ⟨k,_⟩ | ⟨k,_⟩
 ·rw[if_pos k,if_pos k,List.length_append,Jk,sX];omega
 ·rw[k];rfl
 ·rw[k];simp
end Go.Proofs.YtdbiffjdomokfaaGreat
namespace Go.Proofs.YtdbiffjdomokfaaGreat
open Go.Ab
attribute [local simp] bD bq bo bF bE cZ ld bQ bx bA dx dw cg bT aY ct List.take_of_length_le
theorem FY{o:bR}(h:qy o=true):24≤FZ o∧FZ o≤293:=by
 have hp:=zq h
 unfold FZ
 split
 ·omega
 ·split<;>omega
def Sq(o:bR):AV:=if qy o then .tup [.cw 1 (hU (pA o)) none,aI 0] else .tup [cW,aI 8]
theorem Pt(bh:UInt8)(aQ:UInt8)(aP:UInt32)(aT:UInt8)(aX:Int)(bc:UInt8)(ba:UInt32)(bf:UInt8)(bg:Int)(au:Int)(az:UInt8)(ay:UInt32)(ax:UInt8)(aw:Int)(aC:UInt8)(aA:UInt32){x:AV}{l:List Int}(hx:Sl 1 (rows l) x)(hl:l.length<2000000):bj env 99 [.agg [a8 bh,a8 aQ,aF aP,a8 aT,aI aX,a8 bc,aF ba,a8 bf,aI bg,aI au,a8 az,aF ay,a8 ax,aI aw,a8 aC,aF aA,x]]=some (Sq (⟨bh,⟨aQ,aP,aT⟩,aX,⟨⟨⟨bc,ba,bf⟩,bg⟩,au⟩,⟨⟨az,ay,ax⟩,aw⟩,⟨aC,aA⟩,l⟩:bR)):=by
 unfold Sq
 cases ho:qy (⟨bh,⟨aQ,aP,aT⟩,aX,⟨⟨⟨bc,ba,bf⟩,bg⟩,au⟩,⟨⟨az,ay,ax⟩,aw⟩,⟨aC,aA⟩,l⟩:bR) with
 | false=>rw[Mr bh aQ aP aT aX bc ba bf bg au az ay ax aw aC aA hx hl ho];rfl
 | true =>
  have hp:=zq ho
  rw[if_pos rfl]
  unfold pA
  rcases hp.2.2.2.2.2 with ⟨hk,_⟩ | ⟨hk,_⟩ | ⟨hk,_⟩
  ·rw[Mu bh aQ aP aT aX bc ba bf bg au az ay ax aw aC aA hx hl ho hk,if_pos hk]
  ·simp only at hk
   rw[Mt bh aQ aP aT aX bc ba bf bg au az ay ax aw aC aA hx hl ho hk,if_neg (by simp[hk]),if_neg (by simp[hk]),List.append_nil]
  ·simp only at hk
   rw[Ms bh aQ aP aT aX bc ba bf bg au az ay ax aw aC aA hx hl ho hk,if_neg (by simp[hk]),if_pos hk]
end Go.Proofs.YtdbiffjdomokfaaGreat
namespace Go.Proofs.YtdbiffjdomokfaaGreat
open Go.Ab
attribute [local simp] bD bq bo bF bE cZ ld bQ bx bA dx dw cg bT aY ct List.take_of_length_le
def B8(t:Int):List Int→Nat→Int
 | [],_ => -1
 | a :: l,k=>if t=a then k else B8 t l (k+1)
theorem NI(t:Int)(l:List Int) : ∀k:Nat,(0≤B8 t l k↔t∈l):=by
 induction l with
 | nil=>intro k;simp[B8]
 | cons a l ih =>
  intro k
  unfold B8
  by_cases h:t=a
  ·simp[h]
  ·rw[if_neg h,ih];simp[h]
theorem GV{x0:AV}{Q:AV→ab→Prop}{l:List Int}(hx:Sl 1 (rows l) x0)(hl:l.length<4611686018427387904){t:Int}{H:ab} :
 ∀(s:List Int)(k:Nat)(i:Int),l.drop k=s→k≤l.length→i=k→(∀y,y=aI (B8 t s k)→Q y H) →
 bP env Tryz.f140 0 eg [(8,aI i),(0,x0),(1,aR t),(7,aI l.length)] H Q:=by
 intro s
 induction s with
 | nil =>
  rintro k i hs hk rfl hQ
  obtain rfl:=drop_nil hs hk
  refine jb _ _ _ _ _ _ fun g=>?_
  simp[ah,ai,ae,af,ad, *,ek]
  all_goals exact hQ _ rfl
 | cons a s ih =>
  rintro k i hs hk rfl hQ
  obtain⟨hlt,hg,hs',hg'⟩:=drop_cons hs
  refine jb _ _ _ _ _ _ fun g=>?_
  have e3:=IntWalk.i64_in ((k:Int)+1) (by omega)
  by_cases hA:t=a
  ·have e:B8 t (a :: s) k=k:=by unfold B8;rw[if_pos hA]
   simp[ah,ai,ae,af,ad, *,ek,hx.idx,rows,aR]
   all_goals exact hQ _ (by simp[e])
  ·have e:B8 t (a :: s) k=B8 t s (k+1):=by rw[B8,if_neg hA]
   have ih':=ih (k+1) ((k:Int)+1) hs' (by omega) (by simp) (fun y ey=>hQ y (by rw[ey,e]))
   clear ih hQ e
   simp[ah,ai,ae,af,ad, *,ek,hx.idx,rows,aR]
   exact ih'
section
variable{x:AV}{l:List Int}(hx:Sl 1 (rows l) x)(hl:l.length<4611686018427387904)
include hx hl
theorem My(t:Int):bj env 140 [x,aR t]=some (aI (B8 t l 0)):=by
 refine aL (fn:=Tryz.f140) (c:=gf) rfl (by kernel_rfl) (by kernel_rfl) (by kernel_rfl) (by kernel_rfl) ?_;refine oo _ _ _ _ fun g=>?_
 have h:=hx.len
 simp[ah,ai,ae,af,ad, *,jP]
 exact GV hx hl l 0 _ rfl (by omega) rfl (fun y e=>by simp[e])
theorem Ga(t:Int):bj env 122 [x,aR t]=some (aB (decide (t∈l))):=by
 refine aL (fn:=Tryz.f122) (c:=iP) rfl (by kernel_rfl) (by kernel_rfl) (by kernel_rfl) (by kernel_rfl) ?_;refine m5 _ _ _ _ fun g=>?_
 have h:=My hx hl t
 have hr:=hx.r
 have e:=NI t l 0
 simp[ah,ai,ae,af,ad, *,iV]
end
theorem Ky(bh:UInt8)(aQ:UInt8)(aP:UInt32)(aT:UInt8)(aX:Int)(bc:UInt8)(ba:UInt32)(bf:UInt8)(bg:Int)(au:Int)(az:UInt8)(ay:UInt32)(ax:UInt8)(aw:Int)(aC:UInt8)(aA:UInt32){x:AV}{l:List Int}(hx:Sl 1 (rows l) x)(hl:l.length<4611686018427387904):bj env 100 [.agg [a8 bh,a8 aQ,aF aP,a8 aT,aI aX,a8 bc,aF ba,a8 bf,aI bg,aI au,a8 az,aF ay,a8 ax,aI aw,a8 aC,aF aA,x]]=some (aB (!decide (-1∈l))):=by
 refine aL (fn:=Tryz.f100) (c:=Ak) rfl (by kernel_rfl) (by kernel_rfl) (by kernel_rfl) (by kernel_rfl) ?_;refine FK _ _ _ fun g=>?_
 have h:=Ga hx hl (-1)
 have hr:=hx.r
 unfold aR at h
 simp[ah,ai,ae,af,ad, *,Ao]
def Jt(a b:bR):Bool:=decide (a.kind=b.kind)&&((decide (a.h.lv=b.h.lv)&&decide (a.h.cats=b.h.cats)&&decide (a.h.num=b.h.num))&&(decide (a.serial=b.serial) &&
 ((decide (a.s.f.h.lv=b.s.f.h.lv)&&decide (a.s.f.h.cats=b.s.f.h.cats)&&decide (a.s.f.h.num=b.s.f.h.num)&&decide (a.s.f.n=b.s.f.n)&&decide (a.s.many=b.s.many)) &&
 ((decide (a.a.h.lv=b.a.h.lv)&&decide (a.a.h.cats=b.a.h.cats)&&decide (a.a.h.num=b.a.h.num)&&decide (a.a.n=b.a.n))&&((decide (a.to.lv=b.to.lv)&&decide (a.to.cats=b.to.cats))&&decide (a.l=b.l))))))
theorem Mq(bh:UInt8)(aQ:UInt8)(aP:UInt32)(aT:UInt8)(aX:Int)(bc:UInt8)(ba:UInt32)(bf:UInt8)(bg:Int)(au:Int)(az:UInt8)(ay:UInt32)(ax:UInt8)(aw:Int)(aC:UInt8)(aA:UInt32)(k9:UInt8)(k8:UInt8)(lP:UInt32)(jx:UInt8)(OP:Int)(OO:UInt8)(ON:UInt32)(OM:UInt8)(OL:Int)(DF:Int)(DE:UInt8)(DD:UInt32)(DC:UInt8)(Dz:Int)(Dy:UInt8)(Dx:UInt32){x y:AV}{l m:List Int}(hx:Sl 1 (rows l) x)(hy:Sl 1 (rows m) y)(hl:l.length<1000000000):bj env 123 [.agg [a8 bh,a8 aQ,aF aP,a8 aT,aI aX,a8 bc,aF ba,a8 bf,aI bg,aI au,a8 az,aF ay,a8 ax,aI aw,a8 aC,aF aA,x],.agg [a8 k9,a8 k8,aF lP,a8 jx,aI OP,a8 OO,aF ON,a8 OM,aI OL,aI DF,a8 DE,aF DD,a8 DC,aI Dz,a8 Dy,aF Dx,y]]=some (aB (Jt (⟨bh,⟨aQ,aP,aT⟩,aX,⟨⟨⟨bc,ba,bf⟩,bg⟩,au⟩,⟨⟨az,ay,ax⟩,aw⟩,⟨aC,aA⟩,l⟩:bR) (⟨k9,⟨k8,lP,jx⟩,OP,⟨⟨⟨OO,ON,OM⟩,OL⟩,DF⟩,⟨⟨DE,DD,DC⟩,Dz⟩,⟨Dy,Dx⟩,m⟩:bR))):=by
 refine aL (fn:=Tryz.f123) (c:=CD) rfl (by kernel_rfl) (by kernel_rfl) (by kernel_rfl) (by kernel_rfl) ?_;refine HS _ _ _ _ fun g=>?_
 have hq:=Kw hx hy (by omega)
 have hr:=hx.r
 have hr2:=hy.r
 unfold Jt
 cases c1:decide (bh=k9) with
 | false=>simp[ah,ai,ae,af,ad, *,lC,mf,gb]
 | true =>
 cases c2:(decide (aQ=k8)&&decide (aP=lP)&&decide (aT=jx)) with
 | false=>simp[ah,ai,ae,af,ad, *,lC,mf,gb]
 | true =>
 cases c3:decide (aX=OP) with
 | false=>simp[ah,ai,ae,af,ad, *,lC,mf,gb]
 | true =>
 cases c4:(decide (bc=OO)&&decide (ba=ON)&&decide (bf=OM)&&decide (bg=OL)&&decide (au=DF)) with
 | false=>simp[ah,ai,ae,af,ad, *,lC,mf,gb]
 | true =>
 cases c5:(decide (az=DE)&&decide (ay=DD)&&decide (ax=DC)&&decide (aw=Dz)) with
 | false=>simp[ah,ai,ae,af,ad, *,lC,mf,gb]
 | true =>
 cases c6:(decide (aC=Dy)&&decide (aA=Dx)) with
 | false=>simp[ah,ai,ae,af,ad, *,lC,mf,gb]
 | true=>simp[ah,ai,ae,af,ad, *,lC,mf,gb]
end Go.Proofs.YtdbiffjdomokfaaGreat
