/-
  Records: their bytes, and how many blocks they have. No statement of a seat is proved here.
-/
import Derived.Test.YtdbiffjdomokfaaGreatMOpSame
import Derived.Test.YtdbiffjdomokfaaGreatAuVc5
set_option linter.unusedVariables false
set_option linter.unusedSimpArgs false
set_option linter.unusedSectionVars false
set_option linter.unnecessarySimpa false
set_option maxRecDepth 100000
namespace Go.Proofs.YtdbiffjdomokfaaGreat
open Go.Ab
attribute [local simp] bD bq bo bF bE cZ ld bQ bx bA dx dw cg bT aY ct List.take_of_length_le
def Fo(v:UInt8)(c:UInt32)(ok:Bool):Bool:=decide (v≤15)&&(ok||(decide (v=0)&&decide (c=0)))
def wT(user:Int)(v:UInt8)(c:UInt32)(ok:Bool):Bool:=decide (0≤user)&&decide (user<8)&&Fo v c ok
@[simp] theorem F7(user:Int)(v:UInt8)(c:UInt32)(ok:Bool):bj env 96 [.agg [aI user,a8 v,aF c,aB ok]]=some (aI (bad (wT user v c ok))):=by
 refine aL (fn:=Tryz.f96) (c:=vi) rfl (by kernel_rfl) (by kernel_rfl) (by kernel_rfl) (by kernel_rfl) ?_;refine Bf _ _ _ fun g=>?_
 cases ok
 ·simp[ah,ai,ae,af,ad, *,qw,mf,gb]
  repeat' ((first | refine k5 (fun h=>?_) (fun h=>?_) | refine ku (fun h=>?_) (fun h=>?_) | refine ky (fun h=>?_) (fun h=>?_) | refine kq (fun h=>?_) (fun h=>?_) | refine kr (fun h=>?_) (fun h=>?_))<;>(try simp only[decide_eq_true_eq,decide_eq_false_iff_not,Bool.not_eq_true',Bool.not_eq_false',Bool.and_eq_true,Bool.or_eq_true]at h)<;>(try simp[ah,ai,ae,af,ad, *,mf,gb,wT,Fo,bad]))
  all_goals (try grind)
 ·simp[ah,ai,ae,af,ad, *,qw,mf,gb]
  repeat' ((first | refine k5 (fun h=>?_) (fun h=>?_) | refine ku (fun h=>?_) (fun h=>?_) | refine ky (fun h=>?_) (fun h=>?_) | refine kq (fun h=>?_) (fun h=>?_) | refine kr (fun h=>?_) (fun h=>?_))<;>(try simp only[decide_eq_true_eq,decide_eq_false_iff_not,Bool.not_eq_true',Bool.not_eq_false',Bool.and_eq_true,Bool.or_eq_true]at h)<;>(try simp[ah,ai,ae,af,ad, *,mf,gb,wT,Fo,bad]))
  all_goals (try grind)
def Cd(user:Int)(v:UInt8)(c:UInt32)(ok:Bool):List UInt8:=u8 user :: (if ok then 1 else 0) :: v :: be 4 c.toNat
@[simp] theorem ZM(user:Int)(v:UInt8)(c:UInt32)(ok:Bool):bj env 101 [.agg [aI user,a8 v,aF c,aB ok]]=some (if wT user v c ok then .tup [.cw 1 (hU (Cd user v c ok)) none,aI 0] else .tup [cW,aI 8]):=by
 refine aL (fn:=Tryz.f101) (c:=yV) rfl (by kernel_rfl) (by kernel_rfl) (by kernel_rfl) (by kernel_rfl) ?_;refine EB _ _ _ fun g=>?_
 by_cases h:wT user v c ok=true
 ·have h1:v≤15:=by simp[wT,Fo]at h;exact h.2.1
  have hh:lV ⟨v,c,0⟩=true:=by simp[lV,h1]
  cases ok<;>simp[ah,ai,ae,af,ad, *,tF,bad,Cd,gP,hU,Ji]
 ·simp at h
  simp[ah,ai,ae,af,ad, *,tF,bad]
structure jr where
 kind:UInt8
 user:Int
 op:bR
 code:Int
 gu:Int
 gv:UInt8
 gc:UInt32
 gok:Bool
def uB(a b:jr):Bool:=decide (a.kind=b.kind)&&(decide (a.user=b.user)&&(Jt a.op b.op&&(decide (a.code=b.code)&&(decide (a.gu=b.gu)&&(decide (a.gv=b.gv)&&decide (a.gc=b.gc)&&decide (a.gok=b.gok))))))
theorem Kx(k1 k2:UInt8)(u1 u2:Int)(bh:UInt8)(aQ:UInt8)(aP:UInt32)(aT:UInt8)(aX:Int)(bc:UInt8)(ba:UInt32)(bf:UInt8)(bg:Int)(au:Int)(az:UInt8)(ay:UInt32)(ax:UInt8)(aw:Int)(aC:UInt8)(aA:UInt32)(k9:UInt8)(k8:UInt8)(lP:UInt32)(jx:UInt8)(OP:Int)(OO:UInt8)(ON:UInt32)(OM:UInt8)(OL:Int)(DF:Int)(DE:UInt8)(DD:UInt32)(DC:UInt8)(Dz:Int)(Dy:UInt8)(Dx:UInt32)(c1 c2 g1 g2:Int)(v1 v2:UInt8)(w1 w2:UInt32)(o1 o2:Bool){x y:AV}{l m:List Int}(hx:Sl 1 (rows l) x)(hy:Sl 1 (rows m) y)(hl:l.length<1000000000) :
 bj env 102 [.agg [a8 k1,aI u1,a8 bh,a8 aQ,aF aP,a8 aT,aI aX,a8 bc,aF ba,a8 bf,aI bg,aI au,a8 az,aF ay,a8 ax,aI aw,a8 aC,aF aA,x,aI c1,aI g1,a8 v1,aF w1,aB o1],.agg [a8 k2,aI u2,a8 k9,a8 k8,aF lP,a8 jx,aI OP,a8 OO,aF ON,a8 OM,aI OL,aI DF,a8 DE,aF DD,a8 DC,aI Dz,a8 Dy,aF Dx,y,aI c2,aI g2,a8 v2,aF w2,aB o2]] =
  some (aB (uB ⟨k1,u1,(⟨bh,⟨aQ,aP,aT⟩,aX,⟨⟨⟨bc,ba,bf⟩,bg⟩,au⟩,⟨⟨az,ay,ax⟩,aw⟩,⟨aC,aA⟩,l⟩:bR),c1,g1,v1,w1,o1⟩ ⟨k2,u2,(⟨k9,⟨k8,lP,jx⟩,OP,⟨⟨⟨OO,ON,OM⟩,OL⟩,DF⟩,⟨⟨DE,DD,DC⟩,Dz⟩,⟨Dy,Dx⟩,m⟩:bR),c2,g2,v2,w2,o2⟩)):=by
 refine aL (fn:=Tryz.f102) (c:=u9) rfl (by kernel_rfl) (by kernel_rfl) (by kernel_rfl) (by kernel_rfl) ?_;refine Ba _ _ _ _ fun g=>?_
 have hq:=Mq bh aQ aP aT aX bc ba bf bg au az ay ax aw aC aA k9 k8 lP jx OP OO ON OM OL DF DE DD DC Dz Dy Dx hx hy hl
 have hr:=hx.r
 have hr2:=hy.r
 unfold uB
 cases e1:decide (k1=k2) with
 | false=>simp[ah,ai,ae,af,ad, *,jQ,mf,gb]
 | true =>
 cases e2:decide (u1=u2) with
 | false=>simp[ah,ai,ae,af,ad, *,jQ,mf,gb]
 | true =>
 cases e3:Jt (⟨bh,⟨aQ,aP,aT⟩,aX,⟨⟨⟨bc,ba,bf⟩,bg⟩,au⟩,⟨⟨az,ay,ax⟩,aw⟩,⟨aC,aA⟩,l⟩:bR) (⟨k9,⟨k8,lP,jx⟩,OP,⟨⟨⟨OO,ON,OM⟩,OL⟩,DF⟩,⟨⟨DE,DD,DC⟩,Dz⟩,⟨Dy,Dx⟩,m⟩:bR) with
 | false=>simp[ah,ai,ae,af,ad, *,jQ,mf,gb]
 | true =>
 cases e4:decide (c1=c2) with
 | false=>simp[ah,ai,ae,af,ad, *,jQ,mf,gb]
 | true=>simp[ah,ai,ae,af,ad, *,jQ,mf,gb]
def QF:bR:=⟨0,⟨0,0,0⟩,0,⟨⟨⟨0,0,0⟩,0⟩,0⟩,⟨⟨0,0,0⟩,0⟩,⟨0,0⟩,[]⟩
def LL(r:jr):jr:=if r.kind=1 then ⟨1,r.user, { QF with h:=r.op.h},0,0,0,0,false⟩ else if r.kind=2 then ⟨2,0,r.op,r.code,0,0,0,false⟩ else ⟨r.kind,0,QF,0,r.gu,r.gv,r.gc,r.gok⟩
def lT(r:jr):Bool:=if r.kind=1 then (decide (0≤r.user)&&decide (r.user≤255))&&(lV r.op.h&&uB r (LL r)) else if r.kind=2 then (!decide (-1∈r.op.l)&&decide (0≤r.code)&&decide (r.code<65536))&&(qy r.op&&uB r (LL r)) else if r.kind=3 then wT r.gu r.gv r.gc r.gok&&uB r (LL r) else false
def C5(r:jr):AV:=if r.kind=1 then .cw 1 (hU (r.kind :: ((if lV r.op.h then gP r.op.h else [])++[u8 r.user]))) none
 else if r.kind=2 then .cw 1 (hU (r.kind :: ([u8 (r.code / 256),u8 r.code]++(if qy r.op then pA r.op else [])))) none
 else if r.kind=3 then (if wT r.gu r.gv r.gc r.gok then .cw 1 (hU (r.kind :: Cd r.gu r.gv r.gc r.gok)) none else .cw 1 [a8 r.kind] (some 1)) else .cw 1 [a8 r.kind] (some 1)
theorem Ik(k:UInt8)(u:Int)(bh:UInt8)(aQ:UInt8)(aP:UInt32)(aT:UInt8)(aX:Int)(bc:UInt8)(ba:UInt32)(bf:UInt8)(bg:Int)(au:Int)(az:UInt8)(ay:UInt32)(ax:UInt8)(aw:Int)(aC:UInt8)(aA:UInt32)(c g1:Int)(v:UInt8)(w:UInt32)(o:Bool){x:AV}{l:List Int}(hx:Sl 1 (rows l) x)(hl:l.length<2000000) :
 bj env 82 [.agg [a8 k,aI u,a8 bh,a8 aQ,aF aP,a8 aT,aI aX,a8 bc,aF ba,a8 bf,aI bg,aI au,a8 az,aF ay,a8 ax,aI aw,a8 aC,aF aA,x,aI c,aI g1,a8 v,aF w,aB o]]=some (.tup [C5 ⟨k,u,(⟨bh,⟨aQ,aP,aT⟩,aX,⟨⟨⟨bc,ba,bf⟩,bg⟩,au⟩,⟨⟨az,ay,ax⟩,aw⟩,⟨aC,aA⟩,l⟩:bR),c,g1,v,w,o⟩,aB (lT ⟨k,u,(⟨bh,⟨aQ,aP,aT⟩,aX,⟨⟨⟨bc,ba,bf⟩,bg⟩,au⟩,⟨⟨az,ay,ax⟩,aw⟩,⟨aC,aA⟩,l⟩:bR),c,g1,v,w,o⟩)]):=by
 refine aL (fn:=Tryz.f82) (c:=iQ) rfl (by kernel_rfl) (by kernel_rfl) (by kernel_rfl) (by kernel_rfl) ?_;refine m6 _ _ _ fun g=>?_
 have hr:=hx.r
 have hSm:=fun k' u' (k9:UInt8) (k8:UInt8) (lP:UInt32) (jx:UInt8) (OP:Int) (OO:UInt8) (ON:UInt32) (OM:UInt8) (OL:Int) (DF:Int) (DE:UInt8) (DD:UInt32) (DC:UInt8) (Dz:Int) (Dy:UInt8) (Dx:UInt32) c' g' v' w' o' (y:AV) (m:List Int) (hy:Sl 1 (rows m) y)=>Kx k k' u u' bh aQ aP aT aX bc ba bf bg au az ay ax aw aC aA k9 k8 lP jx OP OO ON OM OL DF DE DD DC Dz Dy Dx c c' g1 g' v v' w w' o o' hx hy (by omega)
 by_cases k1:k=1
 ·subst k1
  have hs:=hSm 1 u 0 aQ aP aT 0 0 0 0 0 0 0 0 0 0 0 0 0 0 0 0 false cW [] (.inl ⟨rfl,rfl⟩)
  have hw:lT ⟨1,u,(⟨bh,⟨aQ,aP,aT⟩,aX,⟨⟨⟨bc,ba,bf⟩,bg⟩,au⟩,⟨⟨az,ay,ax⟩,aw⟩,⟨aC,aA⟩,l⟩:bR),c,g1,v,w,o⟩=((decide (0≤u)&&decide (u≤255))&&(lV ⟨aQ,aP,aT⟩&&uB ⟨1,u,(⟨bh,⟨aQ,aP,aT⟩,aX,⟨⟨⟨bc,ba,bf⟩,bg⟩,au⟩,⟨⟨az,ay,ax⟩,aw⟩,⟨aC,aA⟩,l⟩:bR),c,g1,v,w,o⟩ ⟨1,u,⟨0,⟨aQ,aP,aT⟩,0,⟨⟨⟨0,0,0⟩,0⟩,0⟩,⟨⟨0,0,0⟩,0⟩,⟨0,0⟩,[]⟩,0,0,0,0,false⟩)):=rfl
  have hz:C5 ⟨1,u,(⟨bh,⟨aQ,aP,aT⟩,aX,⟨⟨⟨bc,ba,bf⟩,bg⟩,au⟩,⟨⟨az,ay,ax⟩,aw⟩,⟨aC,aA⟩,l⟩:bR),c,g1,v,w,o⟩ = .cw 1 (hU (1 :: ((if lV ⟨aQ,aP,aT⟩ then gP ⟨aQ,aP,aT⟩ else [])++[u8 u]))) none:=rfl
  rw[hw,hz]
  clear hSm hw hz
  generalize uB ⟨1,u,(⟨bh,⟨aQ,aP,aT⟩,aX,⟨⟨⟨bc,ba,bf⟩,bg⟩,au⟩,⟨⟨az,ay,ax⟩,aw⟩,⟨aC,aA⟩,l⟩:bR),c,g1,v,w,o⟩ ⟨1,u,⟨0,⟨aQ,aP,aT⟩,0,⟨⟨⟨0,0,0⟩,0⟩,0⟩,⟨⟨0,0,0⟩,0⟩,⟨0,0⟩,[]⟩,0,0,0,0,false⟩=sm at *
  cases hh:lV ⟨aQ,aP,aT⟩<;>by_cases c0:0≤u<;>by_cases c2:u≤255
  all_goals simp[ah,ai,ae,af,ad, *,cp,gP,hU,Ji]
 ·by_cases k2:k=2
  ·subst k2
   have hs:=hSm 2 0 bh aQ aP aT aX bc ba bf bg au az ay ax aw aC aA c 0 0 0 false x l hx
   have hw:lT ⟨2,u,(⟨bh,⟨aQ,aP,aT⟩,aX,⟨⟨⟨bc,ba,bf⟩,bg⟩,au⟩,⟨⟨az,ay,ax⟩,aw⟩,⟨aC,aA⟩,l⟩:bR),c,g1,v,w,o⟩=((!decide (-1∈l)&&decide (0≤c)&&decide (c<65536))&&(qy (⟨bh,⟨aQ,aP,aT⟩,aX,⟨⟨⟨bc,ba,bf⟩,bg⟩,au⟩,⟨⟨az,ay,ax⟩,aw⟩,⟨aC,aA⟩,l⟩:bR)&&uB ⟨2,u,(⟨bh,⟨aQ,aP,aT⟩,aX,⟨⟨⟨bc,ba,bf⟩,bg⟩,au⟩,⟨⟨az,ay,ax⟩,aw⟩,⟨aC,aA⟩,l⟩:bR),c,g1,v,w,o⟩ ⟨2,0,(⟨bh,⟨aQ,aP,aT⟩,aX,⟨⟨⟨bc,ba,bf⟩,bg⟩,au⟩,⟨⟨az,ay,ax⟩,aw⟩,⟨aC,aA⟩,l⟩:bR),c,0,0,0,false⟩)):=rfl
   have hz:C5 ⟨2,u,(⟨bh,⟨aQ,aP,aT⟩,aX,⟨⟨⟨bc,ba,bf⟩,bg⟩,au⟩,⟨⟨az,ay,ax⟩,aw⟩,⟨aC,aA⟩,l⟩:bR),c,g1,v,w,o⟩ = .cw 1 (hU (2 :: ([u8 (c / 256),u8 c]++(if qy (⟨bh,⟨aQ,aP,aT⟩,aX,⟨⟨⟨bc,ba,bf⟩,bg⟩,au⟩,⟨⟨az,ay,ax⟩,aw⟩,⟨aC,aA⟩,l⟩:bR) then pA (⟨bh,⟨aQ,aP,aT⟩,aX,⟨⟨⟨bc,ba,bf⟩,bg⟩,au⟩,⟨⟨az,ay,ax⟩,aw⟩,⟨aC,aA⟩,l⟩:bR) else [])))) none:=rfl
   have hP:=Ky bh aQ aP aT aX bc ba bf bg au az ay ax aw aC aA hx (by omega)
   have hB:=Pt bh aQ aP aT aX bc ba bf bg au az ay ax aw aC aA hx hl
   rw[hw,hz]
   unfold Sq at hB
   have hlen:qy (⟨bh,⟨aQ,aP,aT⟩,aX,⟨⟨⟨bc,ba,bf⟩,bg⟩,au⟩,⟨⟨az,ay,ax⟩,aw⟩,⟨aC,aA⟩,l⟩:bR)=true→(pA (⟨bh,⟨aQ,aP,aT⟩,aX,⟨⟨⟨bc,ba,bf⟩,bg⟩,au⟩,⟨⟨az,ay,ax⟩,aw⟩,⟨aC,aA⟩,l⟩:bR)).length≤293∧24≤(pA (⟨bh,⟨aQ,aP,aT⟩,aX,⟨⟨⟨bc,ba,bf⟩,bg⟩,au⟩,⟨⟨az,ay,ax⟩,aw⟩,⟨aC,aA⟩,l⟩:bR)).length:=fun h=>by rw[Gx h];exact⟨(FY h).2,(FY h).1⟩
   clear hSm hw hz
   generalize uB ⟨2,u,(⟨bh,⟨aQ,aP,aT⟩,aX,⟨⟨⟨bc,ba,bf⟩,bg⟩,au⟩,⟨⟨az,ay,ax⟩,aw⟩,⟨aC,aA⟩,l⟩:bR),c,g1,v,w,o⟩ ⟨2,0,(⟨bh,⟨aQ,aP,aT⟩,aX,⟨⟨⟨bc,ba,bf⟩,bg⟩,au⟩,⟨⟨az,ay,ax⟩,aw⟩,⟨aC,aA⟩,l⟩:bR),c,0,0,0,false⟩=sm at *
   generalize pA (⟨bh,⟨aQ,aP,aT⟩,aX,⟨⟨⟨bc,ba,bf⟩,bg⟩,au⟩,⟨⟨az,ay,ax⟩,aw⟩,⟨aC,aA⟩,l⟩:bR)=bs at *
   generalize decide (-1∈l)=pl at *
   cases hh:qy (⟨bh,⟨aQ,aP,aT⟩,aX,⟨⟨⟨bc,ba,bf⟩,bg⟩,au⟩,⟨⟨az,ay,ax⟩,aw⟩,⟨aC,aA⟩,l⟩:bR) with
   | false =>
    rw[hh,if_neg (by decide)]at hB
    clear hlen
    cases pl<;>by_cases c0:0≤c<;>by_cases c2:c<65536
    all_goals simp[ah,ai,ae,af,ad, *,cp,hU,fp,eN]
   | true =>
    rw[hh,if_pos rfl]at hB
    have hl2:=hlen hh
    have f1:bs.length+1≤140737488355328∧bs.length+1+1≤140737488355328∧bs.length+1+1+1≤140737488355328:=by omega
    have f0:2+bs.length=bs.length+1+1:=by omega
    have f3:1+(bs.length+1+1)≤140737488355328∧1+(bs.length+1+1)=bs.length+1+1+1:=by omega
    have f2:2+bs.length≤140737488355328∧1+(2+bs.length)≤140737488355328∧2<2+bs.length∧0<bs.length:=by omega
    have hne:bs≠[]:=by rintro rfl;simp at f2
    clear hlen
    cases pl<;>by_cases c0:0≤c<;>by_cases c2:c<65536
    all_goals simp[ah,ai,ae,af,ad, *,cp,hU,fp,eN]
  ·by_cases k3:k=3
   ·subst k3
    have hs:=hSm 3 0 0 0 0 0 0 0 0 0 0 0 0 0 0 0 0 0 0 g1 v w o cW [] (.inl ⟨rfl,rfl⟩)
    have hw:lT ⟨3,u,(⟨bh,⟨aQ,aP,aT⟩,aX,⟨⟨⟨bc,ba,bf⟩,bg⟩,au⟩,⟨⟨az,ay,ax⟩,aw⟩,⟨aC,aA⟩,l⟩:bR),c,g1,v,w,o⟩=(wT g1 v w o&&uB ⟨3,u,(⟨bh,⟨aQ,aP,aT⟩,aX,⟨⟨⟨bc,ba,bf⟩,bg⟩,au⟩,⟨⟨az,ay,ax⟩,aw⟩,⟨aC,aA⟩,l⟩:bR),c,g1,v,w,o⟩ ⟨3,0,⟨0,⟨0,0,0⟩,0,⟨⟨⟨0,0,0⟩,0⟩,0⟩,⟨⟨0,0,0⟩,0⟩,⟨0,0⟩,[]⟩,0,g1,v,w,o⟩):=rfl
    have hz:C5 ⟨3,u,(⟨bh,⟨aQ,aP,aT⟩,aX,⟨⟨⟨bc,ba,bf⟩,bg⟩,au⟩,⟨⟨az,ay,ax⟩,aw⟩,⟨aC,aA⟩,l⟩:bR),c,g1,v,w,o⟩=if wT g1 v w o then .cw 1 (hU (3 :: Cd g1 v w o)) none else .cw 1 [a8 3] (some 1):=rfl
    rw[hw,hz]
    clear hSm hw hz
    generalize uB ⟨3,u,(⟨bh,⟨aQ,aP,aT⟩,aX,⟨⟨⟨bc,ba,bf⟩,bg⟩,au⟩,⟨⟨az,ay,ax⟩,aw⟩,⟨aC,aA⟩,l⟩:bR),c,g1,v,w,o⟩ ⟨3,0,⟨0,⟨0,0,0⟩,0,⟨⟨⟨0,0,0⟩,0⟩,0⟩,⟨⟨0,0,0⟩,0⟩,⟨0,0⟩,[]⟩,0,g1,v,w,o⟩=sm at *
    cases hh:wT g1 v w o
    all_goals simp[ah,ai,ae,af,ad, *,cp,Cd,hU,Ji]
   ·have hw:lT ⟨k,u,(⟨bh,⟨aQ,aP,aT⟩,aX,⟨⟨⟨bc,ba,bf⟩,bg⟩,au⟩,⟨⟨az,ay,ax⟩,aw⟩,⟨aC,aA⟩,l⟩:bR),c,g1,v,w,o⟩=false:=by unfold lT;rw[if_neg k1,if_neg k2,if_neg k3]
    have hz:C5 ⟨k,u,(⟨bh,⟨aQ,aP,aT⟩,aX,⟨⟨⟨bc,ba,bf⟩,bg⟩,au⟩,⟨⟨az,ay,ax⟩,aw⟩,⟨aC,aA⟩,l⟩:bR),c,g1,v,w,o⟩ = .cw 1 [a8 k] (some 1):=by unfold C5;rw[if_neg k1,if_neg k2,if_neg k3]
    rw[hw,hz]
    clear hSm hw hz
    simp[ah,ai,ae,af,ad, *,cp]
end Go.Proofs.YtdbiffjdomokfaaGreat
