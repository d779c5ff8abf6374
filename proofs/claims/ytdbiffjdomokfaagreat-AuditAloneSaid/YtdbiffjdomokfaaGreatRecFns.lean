/-
  Records: their bytes, and how many blocks they have. No statement of a seat is proved here.
-/
import Derived.Test.YtdbiffjdomokfaaGreatMOpSame
import Derived.Test.YtdbiffjdomokfaaGreatAuVc5
set_option linter.unusedVariables false
set_option linter.unusedSimpArgs false
set_option linter.unusedSectionVars false
set_option linter.unnecessarySimpa false
set_option maxRecDepth 100000
namespace Go.Proofs.YtdbiffjdomokfaaGreat
open Go.Ab
attribute [local simp] bD bp bl bC bB cV lj bP bt bA dc db cg bR aV cm List.take_of_length_le
def F3(v:UInt8)(c:UInt32)(ok:Bool):Bool:=decide (v≤15)&&(ok||(decide (v=0)&&decide (c=0)))
def xw(user:Int)(v:UInt8)(c:UInt32)(ok:Bool):Bool:=decide (0≤user)&&decide (user<8)&&F3 v c ok
@[simp] theorem GN(user:Int)(v:UInt8)(c:UInt32)(ok:Bool):bj env 96 [.agg [aI user,a8 v,aG c,aB ok]]=some (aI (bad (xw user v c ok))):=by
 refine aK (fn:=Tryz.f96) (c:=vJ) rfl (by kernel_rfl) (by kernel_rfl) (by kernel_rfl) (by kernel_rfl) ?_;refine BG _ _ _ fun g=>?_
 cases ok
 ·simp[ah,ai,ae,af,ad, *,qN,lZ,gb]
  repeat' ((first | refine kO (fun h=>?_) (fun h=>?_) | refine kC (fun h=>?_) (fun h=>?_) | refine kD (fun h=>?_) (fun h=>?_) | refine kA (fun h=>?_) (fun h=>?_) | refine kB (fun h=>?_) (fun h=>?_))<;>(try simp only[decide_eq_true_eq,decide_eq_false_iff_not,Bool.not_eq_true',Bool.not_eq_false',Bool.and_eq_true,Bool.or_eq_true]at h)<;>(try simp[ah,ai,ae,af,ad, *,lZ,gb,xw,F3,bad]))
  all_goals (try grind)
 ·simp[ah,ai,ae,af,ad, *,qN,lZ,gb]
  repeat' ((first | refine kO (fun h=>?_) (fun h=>?_) | refine kC (fun h=>?_) (fun h=>?_) | refine kD (fun h=>?_) (fun h=>?_) | refine kA (fun h=>?_) (fun h=>?_) | refine kB (fun h=>?_) (fun h=>?_))<;>(try simp only[decide_eq_true_eq,decide_eq_false_iff_not,Bool.not_eq_true',Bool.not_eq_false',Bool.and_eq_true,Bool.or_eq_true]at h)<;>(try simp[ah,ai,ae,af,ad, *,lZ,gb,xw,F3,bad]))
  all_goals (try grind)
def CF(user:Int)(v:UInt8)(c:UInt32)(ok:Bool):List UInt8:=u8 user :: (if ok then 1 else 0) :: v :: be 4 c.toNat
@[simp] theorem aaA(user:Int)(v:UInt8)(c:UInt32)(ok:Bool):bj env 101 [.agg [aI user,a8 v,aG c,aB ok]]=some (if xw user v c ok then .tup [.cw 1 (ia (CF user v c ok)) none,aI 0] else .tup [cP,aI 8]):=by
 refine aK (fn:=Tryz.f101) (c:=zn) rfl (by kernel_rfl) (by kernel_rfl) (by kernel_rfl) (by kernel_rfl) ?_;refine Ff _ _ _ fun g=>?_
 by_cases h:xw user v c ok=true
 ·have h1:v≤15:=by simp[xw,F3]at h;exact h.2.1
  have hh:m8 ⟨v,c,0⟩=true:=by simp[m8,h1]
  cases ok<;>simp[ah,ai,ae,af,ad, *,tY,bad,CF,gU,ia,J3]
 ·simp at h
  simp[ah,ai,ae,af,ad, *,tY,bad]
structure gA where
 kind:UInt8
 user:Int
 op:bG
 code:Int
 gu:Int
 gv:UInt8
 gc:UInt32
 gok:Bool
def uW(a b:gA):Bool:=decide (a.kind=b.kind)&&(decide (a.user=b.user)&&(Kf a.op b.op&&(decide (a.code=b.code)&&(decide (a.gu=b.gu)&&(decide (a.gv=b.gv)&&decide (a.gc=b.gc)&&decide (a.gok=b.gok))))))
theorem Lm(k1 k2:UInt8)(u1 u2:Int)(bh:UInt8)(aQ:UInt8)(aP:UInt32)(aW:UInt8)(aY:Int)(bc:UInt8)(ba:UInt32)(bf:UInt8)(bg:Int)(au:Int)(az:UInt8)(ay:UInt32)(ax:UInt8)(aw:Int)(aC:UInt8)(aA:UInt32)(lx:UInt8)(lu:UInt8)(lW:UInt32)(jx:UInt8)(PA:Int)(Pz:UInt8)(Py:UInt32)(Px:UInt8)(Pw:Int)(Eb:Int)(Ea:UInt8)(D9:UInt32)(D8:UInt8)(D7:Int)(D6:UInt8)(D5:UInt32)(c1 c2 g1 g2:Int)(v1 v2:UInt8)(w1 w2:UInt32)(o1 o2:Bool){x y:AV}{l m:List Int}(hx:Sl 1 (rows l) x)(hy:Sl 1 (rows m) y)(hl:l.length<1000000000) :
 bj env 102 [.agg [a8 k1,aI u1,a8 bh,a8 aQ,aG aP,a8 aW,aI aY,a8 bc,aG ba,a8 bf,aI bg,aI au,a8 az,aG ay,a8 ax,aI aw,a8 aC,aG aA,x,aI c1,aI g1,a8 v1,aG w1,aB o1],.agg [a8 k2,aI u2,a8 lx,a8 lu,aG lW,a8 jx,aI PA,a8 Pz,aG Py,a8 Px,aI Pw,aI Eb,a8 Ea,aG D9,a8 D8,aI D7,a8 D6,aG D5,y,aI c2,aI g2,a8 v2,aG w2,aB o2]] =
  some (aB (uW ⟨k1,u1,(⟨bh,⟨aQ,aP,aW⟩,aY,⟨⟨⟨bc,ba,bf⟩,bg⟩,au⟩,⟨⟨az,ay,ax⟩,aw⟩,⟨aC,aA⟩,l⟩:bG),c1,g1,v1,w1,o1⟩ ⟨k2,u2,(⟨lx,⟨lu,lW,jx⟩,PA,⟨⟨⟨Pz,Py,Px⟩,Pw⟩,Eb⟩,⟨⟨Ea,D9,D8⟩,D7⟩,⟨D6,D5⟩,m⟩:bG),c2,g2,v2,w2,o2⟩)):=by
 refine aK (fn:=Tryz.f102) (c:=vE) rfl (by kernel_rfl) (by kernel_rfl) (by kernel_rfl) (by kernel_rfl) ?_;refine BB _ _ _ _ fun g=>?_
 have hq:=Nl bh aQ aP aW aY bc ba bf bg au az ay ax aw aC aA lx lu lW jx PA Pz Py Px Pw Eb Ea D9 D8 D7 D6 D5 hx hy hl
 have hr:=hx.r
 have hr2:=hy.r
 unfold uW
 cases e1:decide (k1=k2) with
 | false=>simp[ah,ai,ae,af,ad, *,jR,lZ,gb]
 | true =>
 cases e2:decide (u1=u2) with
 | false=>simp[ah,ai,ae,af,ad, *,jR,lZ,gb]
 | true =>
 cases e3:Kf (⟨bh,⟨aQ,aP,aW⟩,aY,⟨⟨⟨bc,ba,bf⟩,bg⟩,au⟩,⟨⟨az,ay,ax⟩,aw⟩,⟨aC,aA⟩,l⟩:bG) (⟨lx,⟨lu,lW,jx⟩,PA,⟨⟨⟨Pz,Py,Px⟩,Pw⟩,Eb⟩,⟨⟨Ea,D9,D8⟩,D7⟩,⟨D6,D5⟩,m⟩:bG) with
 | false=>simp[ah,ai,ae,af,ad, *,jR,lZ,gb]
 | true =>
 cases e4:decide (c1=c2) with
 | false=>simp[ah,ai,ae,af,ad, *,jR,lZ,gb]
 | true=>simp[ah,ai,ae,af,ad, *,jR,lZ,gb]
def Rp:bG:=⟨0,⟨0,0,0⟩,0,⟨⟨⟨0,0,0⟩,0⟩,0⟩,⟨⟨0,0,0⟩,0⟩,⟨0,0⟩,[]⟩
def MB(r:gA):gA:=if r.kind=1 then ⟨1,r.user, { Rp with h:=r.op.h},0,0,0,0,false⟩ else if r.kind=2 then ⟨2,0,r.op,r.code,0,0,0,false⟩ else ⟨r.kind,0,Rp,0,r.gu,r.gv,r.gc,r.gok⟩
def m4(r:gA):Bool:=if r.kind=1 then (decide (0≤r.user)&&decide (r.user≤255))&&(m8 r.op.h&&uW r (MB r)) else if r.kind=2 then (!decide (-1∈r.op.l)&&decide (0≤r.code)&&decide (r.code<65536))&&(mT r.op&&uW r (MB r)) else if r.kind=3 then xw r.gu r.gv r.gc r.gok&&uW r (MB r) else false
def DC(r:gA):AV:=if r.kind=1 then .cw 1 (ia (r.kind :: ((if m8 r.op.h then gU r.op.h else [])++[u8 r.user]))) none
 else if r.kind=2 then .cw 1 (ia (r.kind :: ([u8 (r.code / 256),u8 r.code]++(if mT r.op then pQ r.op else [])))) none
 else if r.kind=3 then (if xw r.gu r.gv r.gc r.gok then .cw 1 (ia (r.kind :: CF r.gu r.gv r.gc r.gok)) none else .cw 1 [a8 r.kind] (some 1)) else .cw 1 [a8 r.kind] (some 1)
theorem I2(k:UInt8)(u:Int)(bh:UInt8)(aQ:UInt8)(aP:UInt32)(aW:UInt8)(aY:Int)(bc:UInt8)(ba:UInt32)(bf:UInt8)(bg:Int)(au:Int)(az:UInt8)(ay:UInt32)(ax:UInt8)(aw:Int)(aC:UInt8)(aA:UInt32)(c g1:Int)(v:UInt8)(w:UInt32)(o:Bool){x:AV}{l:List Int}(hx:Sl 1 (rows l) x)(hl:l.length<2000000) :
 bj env 82 [.agg [a8 k,aI u,a8 bh,a8 aQ,aG aP,a8 aW,aI aY,a8 bc,aG ba,a8 bf,aI bg,aI au,a8 az,aG ay,a8 ax,aI aw,a8 aC,aG aA,x,aI c,aI g1,a8 v,aG w,aB o]]=some (.tup [DC ⟨k,u,(⟨bh,⟨aQ,aP,aW⟩,aY,⟨⟨⟨bc,ba,bf⟩,bg⟩,au⟩,⟨⟨az,ay,ax⟩,aw⟩,⟨aC,aA⟩,l⟩:bG),c,g1,v,w,o⟩,aB (m4 ⟨k,u,(⟨bh,⟨aQ,aP,aW⟩,aY,⟨⟨⟨bc,ba,bf⟩,bg⟩,au⟩,⟨⟨az,ay,ax⟩,aw⟩,⟨aC,aA⟩,l⟩:bG),c,g1,v,w,o⟩)]):=by
 refine aK (fn:=Tryz.f82) (c:=iQ) rfl (by kernel_rfl) (by kernel_rfl) (by kernel_rfl) (by kernel_rfl) ?_;refine ng _ _ _ fun g=>?_
 have hr:=hx.r
 have hSm:=fun k' u' (lx:UInt8) (lu:UInt8) (lW:UInt32) (jx:UInt8) (PA:Int) (Pz:UInt8) (Py:UInt32) (Px:UInt8) (Pw:Int) (Eb:Int) (Ea:UInt8) (D9:UInt32) (D8:UInt8) (D7:Int) (D6:UInt8) (D5:UInt32) c' g' v' w' o' (y:AV) (m:List Int) (hy:Sl 1 (rows m) y)=>Lm k k' u u' bh aQ aP aW aY bc ba bf bg au az ay ax aw aC aA lx lu lW jx PA Pz Py Px Pw Eb Ea D9 D8 D7 D6 D5 c c' g1 g' v v' w w' o o' hx hy (by omega)
 by_cases k1:k=1
 ·subst k1
  have hs:=hSm 1 u 0 aQ aP aW 0 0 0 0 0 0 0 0 0 0 0 0 0 0 0 0 false cP [] (.inl ⟨rfl,rfl⟩)
  have hw:m4 ⟨1,u,(⟨bh,⟨aQ,aP,aW⟩,aY,⟨⟨⟨bc,ba,bf⟩,bg⟩,au⟩,⟨⟨az,ay,ax⟩,aw⟩,⟨aC,aA⟩,l⟩:bG),c,g1,v,w,o⟩=((decide (0≤u)&&decide (u≤255))&&(m8 ⟨aQ,aP,aW⟩&&uW ⟨1,u,(⟨bh,⟨aQ,aP,aW⟩,aY,⟨⟨⟨bc,ba,bf⟩,bg⟩,au⟩,⟨⟨az,ay,ax⟩,aw⟩,⟨aC,aA⟩,l⟩:bG),c,g1,v,w,o⟩ ⟨1,u,⟨0,⟨aQ,aP,aW⟩,0,⟨⟨⟨0,0,0⟩,0⟩,0⟩,⟨⟨0,0,0⟩,0⟩,⟨0,0⟩,[]⟩,0,0,0,0,false⟩)):=rfl
  have hz:DC ⟨1,u,(⟨bh,⟨aQ,aP,aW⟩,aY,⟨⟨⟨bc,ba,bf⟩,bg⟩,au⟩,⟨⟨az,ay,ax⟩,aw⟩,⟨aC,aA⟩,l⟩:bG),c,g1,v,w,o⟩ = .cw 1 (ia (1 :: ((if m8 ⟨aQ,aP,aW⟩ then gU ⟨aQ,aP,aW⟩ else [])++[u8 u]))) none:=rfl
  rw[hw,hz]
  clear hSm hw hz
  generalize uW ⟨1,u,(⟨bh,⟨aQ,aP,aW⟩,aY,⟨⟨⟨bc,ba,bf⟩,bg⟩,au⟩,⟨⟨az,ay,ax⟩,aw⟩,⟨aC,aA⟩,l⟩:bG),c,g1,v,w,o⟩ ⟨1,u,⟨0,⟨aQ,aP,aW⟩,0,⟨⟨⟨0,0,0⟩,0⟩,0⟩,⟨⟨0,0,0⟩,0⟩,⟨0,0⟩,[]⟩,0,0,0,0,false⟩=sm at *
  cases hh:m8 ⟨aQ,aP,aW⟩<;>by_cases c0:0≤u<;>by_cases c2:u≤255
  all_goals simp[ah,ai,ae,af,ad, *,cy,gU,ia,J3]
 ·by_cases k2:k=2
  ·subst k2
   have hs:=hSm 2 0 bh aQ aP aW aY bc ba bf bg au az ay ax aw aC aA c 0 0 0 false x l hx
   have hw:m4 ⟨2,u,(⟨bh,⟨aQ,aP,aW⟩,aY,⟨⟨⟨bc,ba,bf⟩,bg⟩,au⟩,⟨⟨az,ay,ax⟩,aw⟩,⟨aC,aA⟩,l⟩:bG),c,g1,v,w,o⟩=((!decide (-1∈l)&&decide (0≤c)&&decide (c<65536))&&(mT (⟨bh,⟨aQ,aP,aW⟩,aY,⟨⟨⟨bc,ba,bf⟩,bg⟩,au⟩,⟨⟨az,ay,ax⟩,aw⟩,⟨aC,aA⟩,l⟩:bG)&&uW ⟨2,u,(⟨bh,⟨aQ,aP,aW⟩,aY,⟨⟨⟨bc,ba,bf⟩,bg⟩,au⟩,⟨⟨az,ay,ax⟩,aw⟩,⟨aC,aA⟩,l⟩:bG),c,g1,v,w,o⟩ ⟨2,0,(⟨bh,⟨aQ,aP,aW⟩,aY,⟨⟨⟨bc,ba,bf⟩,bg⟩,au⟩,⟨⟨az,ay,ax⟩,aw⟩,⟨aC,aA⟩,l⟩:bG),c,0,0,0,false⟩)):=rfl
   have hz:DC ⟨2,u,(⟨bh,⟨aQ,aP,aW⟩,aY,⟨⟨⟨bc,ba,bf⟩,bg⟩,au⟩,⟨⟨az,ay,ax⟩,aw⟩,⟨aC,aA⟩,l⟩:bG),c,g1,v,w,o⟩ = .cw 1 (ia (2 :: ([u8 (c / 256),u8 c]++(if mT (⟨bh,⟨aQ,aP,aW⟩,aY,⟨⟨⟨bc,ba,bf⟩,bg⟩,au⟩,⟨⟨az,ay,ax⟩,aw⟩,⟨aC,aA⟩,l⟩:bG) then pQ (⟨bh,⟨aQ,aP,aW⟩,aY,⟨⟨⟨bc,ba,bf⟩,bg⟩,au⟩,⟨⟨az,ay,ax⟩,aw⟩,⟨aC,aA⟩,l⟩:bG) else [])))) none:=rfl
   have hP:=Ln bh aQ aP aW aY bc ba bf bg au az ay ax aw aC aA hx (by omega)
   have hB:=Qc bh aQ aP aW aY bc ba bf bg au az ay ax aw aC aA hx hl
   rw[hw,hz]
   unfold S7 at hB
   have hlen:mT (⟨bh,⟨aQ,aP,aW⟩,aY,⟨⟨⟨bc,ba,bf⟩,bg⟩,au⟩,⟨⟨az,ay,ax⟩,aw⟩,⟨aC,aA⟩,l⟩:bG)=true→(pQ (⟨bh,⟨aQ,aP,aW⟩,aY,⟨⟨⟨bc,ba,bf⟩,bg⟩,au⟩,⟨⟨az,ay,ax⟩,aw⟩,⟨aC,aA⟩,l⟩:bG)).length≤293∧24≤(pQ (⟨bh,⟨aQ,aP,aW⟩,aY,⟨⟨⟨bc,ba,bf⟩,bg⟩,au⟩,⟨⟨az,ay,ax⟩,aw⟩,⟨aC,aA⟩,l⟩:bG)).length:=fun h=>by rw[Hc h];exact⟨(GD h).2,(GD h).1⟩
   clear hSm hw hz
   generalize uW ⟨2,u,(⟨bh,⟨aQ,aP,aW⟩,aY,⟨⟨⟨bc,ba,bf⟩,bg⟩,au⟩,⟨⟨az,ay,ax⟩,aw⟩,⟨aC,aA⟩,l⟩:bG),c,g1,v,w,o⟩ ⟨2,0,(⟨bh,⟨aQ,aP,aW⟩,aY,⟨⟨⟨bc,ba,bf⟩,bg⟩,au⟩,⟨⟨az,ay,ax⟩,aw⟩,⟨aC,aA⟩,l⟩:bG),c,0,0,0,false⟩=sm at *
   generalize pQ (⟨bh,⟨aQ,aP,aW⟩,aY,⟨⟨⟨bc,ba,bf⟩,bg⟩,au⟩,⟨⟨az,ay,ax⟩,aw⟩,⟨aC,aA⟩,l⟩:bG)=bs at *
   generalize decide (-1∈l)=pl at *
   cases hh:mT (⟨bh,⟨aQ,aP,aW⟩,aY,⟨⟨⟨bc,ba,bf⟩,bg⟩,au⟩,⟨⟨az,ay,ax⟩,aw⟩,⟨aC,aA⟩,l⟩:bG) with
   | false =>
    rw[hh,if_neg (by decide)]at hB
    clear hlen
    cases pl<;>by_cases c0:0≤c<;>by_cases c2:c<65536
    all_goals simp[ah,ai,ae,af,ad, *,cy,ia,fq,eO]
   | true =>
    rw[hh,if_pos rfl]at hB
    have hl2:=hlen hh
    have f1:bs.length+1≤140737488355328∧bs.length+1+1≤140737488355328∧bs.length+1+1+1≤140737488355328:=by omega
    have f0:2+bs.length=bs.length+1+1:=by omega
    have f3:1+(bs.length+1+1)≤140737488355328∧1+(bs.length+1+1)=bs.length+1+1+1:=by omega
    have f2:2+bs.length≤140737488355328∧1+(2+bs.length)≤140737488355328∧2<2+bs.length∧0<bs.length:=by omega
    have hne:bs≠[]:=by rintro rfl;simp at f2
    clear hlen
    cases pl<;>by_cases c0:0≤c<;>by_cases c2:c<65536
    all_goals simp[ah,ai,ae,af,ad, *,cy,ia,fq,eO]
  ·by_cases k3:k=3
   ·subst k3
    have hs:=hSm 3 0 0 0 0 0 0 0 0 0 0 0 0 0 0 0 0 0 0 g1 v w o cP [] (.inl ⟨rfl,rfl⟩)
    have hw:m4 ⟨3,u,(⟨bh,⟨aQ,aP,aW⟩,aY,⟨⟨⟨bc,ba,bf⟩,bg⟩,au⟩,⟨⟨az,ay,ax⟩,aw⟩,⟨aC,aA⟩,l⟩:bG),c,g1,v,w,o⟩=(xw g1 v w o&&uW ⟨3,u,(⟨bh,⟨aQ,aP,aW⟩,aY,⟨⟨⟨bc,ba,bf⟩,bg⟩,au⟩,⟨⟨az,ay,ax⟩,aw⟩,⟨aC,aA⟩,l⟩:bG),c,g1,v,w,o⟩ ⟨3,0,⟨0,⟨0,0,0⟩,0,⟨⟨⟨0,0,0⟩,0⟩,0⟩,⟨⟨0,0,0⟩,0⟩,⟨0,0⟩,[]⟩,0,g1,v,w,o⟩):=rfl
    have hz:DC ⟨3,u,(⟨bh,⟨aQ,aP,aW⟩,aY,⟨⟨⟨bc,ba,bf⟩,bg⟩,au⟩,⟨⟨az,ay,ax⟩,aw⟩,⟨aC,aA⟩,l⟩:bG),c,g1,v,w,o⟩=if xw g1 v w o then .cw 1 (ia (3 :: CF g1 v w o)) none else .cw 1 [a8 3] (some 1):=rfl
    rw[hw,hz]
    clear hSm hw hz
    generalize uW ⟨3,u,(⟨bh,⟨aQ,aP,aW⟩,aY,⟨⟨⟨bc,ba,bf⟩,bg⟩,au⟩,⟨⟨az,ay,ax⟩,aw⟩,⟨aC,aA⟩,l⟩:bG),c,g1,v,w,o⟩ ⟨3,0,⟨0,⟨0,0,0⟩,0,⟨⟨⟨0,0,0⟩,0⟩,0⟩,⟨⟨0,0,0⟩,0⟩,⟨0,0⟩,[]⟩,0,g1,v,w,o⟩=sm at *
    cases hh:xw g1 v w o
    all_goals simp[ah,ai,ae,af,ad, *,cy,CF,ia,J3]
   ·have hw:m4 ⟨k,u,(⟨bh,⟨aQ,aP,aW⟩,aY,⟨⟨⟨bc,ba,bf⟩,bg⟩,au⟩,⟨⟨az,ay,ax⟩,aw⟩,⟨aC,aA⟩,l⟩:bG),c,g1,v,w,o⟩=false:=by unfold m4;rw[if_neg k1,if_neg k2,if_neg k3]
    have hz:DC ⟨k,u,(⟨bh,⟨aQ,aP,aW⟩,aY,⟨⟨⟨bc,ba,bf⟩,bg⟩,au⟩,⟨⟨az,ay,ax⟩,aw⟩,⟨aC,aA⟩,l⟩:bG),c,g1,v,w,o⟩ = .cw 1 [a8 k] (some 1):=by unfold DC;rw[if_neg k1,if_neg k2,if_neg k3]
    rw[hw,hz]
    clear hSm hw hz
    simp[ah,ai,ae,af,ad, *,cy]
end Go.Proofs.YtdbiffjdomokfaaGreat
