/-
  Records: their bytes, and how many blocks they have. No statement of a seat is proved here.
-/
import Derived.Test.YtdbiffjdomokfaaGreatMOpSame
import Derived.Test.YtdbiffjdomokfaaGreatAuVc5
set_option linter.unusedVariables false
set_option linter.unusedSimpArgs false
set_option linter.unusedSectionVars false
set_option linter.unnecessarySimpa false
set_option maxRecDepth 100000
namespace Go.Proofs.YtdbiffjdomokfaaGreat
open Go.Ab
attribute [local simp] bK bw bo bM bL dc kS bU bx bH dJ dI cp bX bh cC List.take_of_length_le
def En(v:UInt8)(c:UInt32)(ok:Bool):Bool:=decide (v≤15)&&(ok||(decide (v=0)&&decide (c=0)))
def vM(user:Int)(v:UInt8)(c:UInt32)(ok:Bool):Bool:=decide (0≤user)&&decide (user<8)&&En v c ok
@[simp] theorem E7(user:Int)(v:UInt8)(c:UInt32)(ok:Bool):bj env 96 [.agg [aI user,a8 v,aF c,aB ok]]=some (aI (bad (vM user v c ok))):=by
 refine aJ (fn:=Tryz.f96) (c:=ug) rfl (by kernel_rfl) (by kernel_rfl) (by kernel_rfl) (by kernel_rfl) ?_;refine Af _ _ _ fun g=>?_
 cases ok
 ·simp[ah,ai,ae,af,ad, *,pT,lC,fL]
  repeat' ((first | refine kP (fun h=>?_) (fun h=>?_) | refine kp (fun h=>?_) (fun h=>?_) | refine kq (fun h=>?_) (fun h=>?_) | refine kn (fun h=>?_) (fun h=>?_) | refine ko (fun h=>?_) (fun h=>?_))<;>(try simp only[decide_eq_true_eq,decide_eq_false_iff_not,Bool.not_eq_true',Bool.not_eq_false',Bool.and_eq_true,Bool.or_eq_true]at h)<;>(try simp[ah,ai,ae,af,ad, *,lC,fL,vM,En,bad]))
  all_goals (try grind)
 ·simp[ah,ai,ae,af,ad, *,pT,lC,fL]
  repeat' ((first | refine kP (fun h=>?_) (fun h=>?_) | refine kp (fun h=>?_) (fun h=>?_) | refine kq (fun h=>?_) (fun h=>?_) | refine kn (fun h=>?_) (fun h=>?_) | refine ko (fun h=>?_) (fun h=>?_))<;>(try simp only[decide_eq_true_eq,decide_eq_false_iff_not,Bool.not_eq_true',Bool.not_eq_false',Bool.and_eq_true,Bool.or_eq_true]at h)<;>(try simp[ah,ai,ae,af,ad, *,lC,fL,vM,En,bad]))
  all_goals (try grind)
def Be(user:Int)(v:UInt8)(c:UInt32)(ok:Bool):List UInt8:=u8 user :: (if ok then 1 else 0) :: v :: be 4 c.toNat
@[simp] theorem X7(user:Int)(v:UInt8)(c:UInt32)(ok:Bool):bj env 101 [.agg [aI user,a8 v,aF c,aB ok]]=some (if vM user v c ok then .tup [.cm 1 (gJ (Be user v c ok)) none,aI 0] else .tup [dg,aI 8]):=by
 refine aJ (fn:=Tryz.f101) (c:=xL) rfl (by kernel_rfl) (by kernel_rfl) (by kernel_rfl) (by kernel_rfl) ?_;refine Dy _ _ _ fun g=>?_
 by_cases h:vM user v c ok=true
 ·have h1:v≤15:=by simp[vM,En]at h;exact h.2.1
  have hh:mm ⟨v,c,0⟩=true:=by simp[mm,h1]
  cases ok<;>simp[ah,ai,ae,af,ad, *,sE,bad,Be,gy,gJ,HQ]
 ·simp at h
  simp[ah,ai,ae,af,ad, *,sE,bad]
structure mv where
 kind:UInt8
 user:Int
 op:bQ
 code:Int
 gu:Int
 gv:UInt8
 gc:UInt32
 gok:Bool
def tv(a b:mv):Bool:=decide (a.kind=b.kind)&&(decide (a.user=b.user)&&(Ia a.op b.op&&(decide (a.code=b.code)&&(decide (a.gu=b.gu)&&(decide (a.gv=b.gv)&&decide (a.gc=b.gc)&&decide (a.gok=b.gok))))))
theorem Jg(k1 k2:UInt8)(u1 u2:Int)(bg:UInt8)(aP:UInt8)(aO:UInt32)(aT:UInt8)(aW:Int)(ba:UInt8)(aZ:UInt32)(bc:UInt8)(bf:Int)(au:Int)(az:UInt8)(ay:UInt32)(ax:UInt8)(aw:Int)(aC:UInt8)(aA:UInt32)(kF:UInt8)(kE:UInt8)(k8:UInt32)(jd:UInt8)(M6:Int)(M4:UInt8)(MZ:UInt32)(MY:UInt8)(MX:Int)(CC:Int)(CB:UInt8)(CA:UInt32)(Cz:UInt8)(Cy:Int)(Cx:UInt8)(Cw:UInt32)(c1 c2 g1 g2:Int)(v1 v2:UInt8)(w1 w2:UInt32)(o1 o2:Bool){x y:AV}{l m:List Int}(hx:Sl 1 (rows l) x)(hy:Sl 1 (rows m) y)(hl:l.length<1000000000) :
 bj env 102 [.agg [a8 k1,aI u1,a8 bg,a8 aP,aF aO,a8 aT,aI aW,a8 ba,aF aZ,a8 bc,aI bf,aI au,a8 az,aF ay,a8 ax,aI aw,a8 aC,aF aA,x,aI c1,aI g1,a8 v1,aF w1,aB o1],.agg [a8 k2,aI u2,a8 kF,a8 kE,aF k8,a8 jd,aI M6,a8 M4,aF MZ,a8 MY,aI MX,aI CC,a8 CB,aF CA,a8 Cz,aI Cy,a8 Cx,aF Cw,y,aI c2,aI g2,a8 v2,aF w2,aB o2]] =
  some (aB (tv ⟨k1,u1,(⟨bg,⟨aP,aO,aT⟩,aW,⟨⟨⟨ba,aZ,bc⟩,bf⟩,au⟩,⟨⟨az,ay,ax⟩,aw⟩,⟨aC,aA⟩,l⟩:bQ),c1,g1,v1,w1,o1⟩ ⟨k2,u2,(⟨kF,⟨kE,k8,jd⟩,M6,⟨⟨⟨M4,MZ,MY⟩,MX⟩,CC⟩,⟨⟨CB,CA,Cz⟩,Cy⟩,⟨Cx,Cw⟩,m⟩:bQ),c2,g2,v2,w2,o2⟩)):=by
 refine aJ (fn:=Tryz.f102) (c:=tZ) rfl (by kernel_rfl) (by kernel_rfl) (by kernel_rfl) (by kernel_rfl) ?_;refine z9 _ _ _ _ fun g=>?_
 have hq:=KT bg aP aO aT aW ba aZ bc bf au az ay ax aw aC aA kF kE k8 jd M6 M4 MZ MY MX CC CB CA Cz Cy Cx Cw hx hy hl
 have hr:=hx.r
 have hr2:=hy.r
 unfold tv
 cases e1:decide (k1=k2) with
 | false=>simp[ah,ai,ae,af,ad, *,jx,lC,fL]
 | true =>
 cases e2:decide (u1=u2) with
 | false=>simp[ah,ai,ae,af,ad, *,jx,lC,fL]
 | true =>
 cases e3:Ia (⟨bg,⟨aP,aO,aT⟩,aW,⟨⟨⟨ba,aZ,bc⟩,bf⟩,au⟩,⟨⟨az,ay,ax⟩,aw⟩,⟨aC,aA⟩,l⟩:bQ) (⟨kF,⟨kE,k8,jd⟩,M6,⟨⟨⟨M4,MZ,MY⟩,MX⟩,CC⟩,⟨⟨CB,CA,Cz⟩,Cy⟩,⟨Cx,Cw⟩,m⟩:bQ) with
 | false=>simp[ah,ai,ae,af,ad, *,jx,lC,fL]
 | true =>
 cases e4:decide (c1=c2) with
 | false=>simp[ah,ai,ae,af,ad, *,jx,lC,fL]
 | true=>simp[ah,ai,ae,af,ad, *,jx,lC,fL]
def ON:bQ:=⟨0,⟨0,0,0⟩,0,⟨⟨⟨0,0,0⟩,0⟩,0⟩,⟨⟨0,0,0⟩,0⟩,⟨0,0⟩,[]⟩
def Kr(r:mv):mv:=if r.kind=1 then ⟨1,r.user, { ON with h:=r.op.h},0,0,0,0,false⟩ else if r.kind=2 then ⟨2,0,r.op,r.code,0,0,0,false⟩ else ⟨r.kind,0,ON,0,r.gu,r.gv,r.gc,r.gok⟩
def px(r:mv):Bool:=if r.kind=1 then (decide (0≤r.user)&&decide (r.user≤255))&&(mm r.op.h&&tv r (Kr r)) else if r.kind=2 then (!decide (-1∈r.op.l)&&decide (0≤r.code)&&decide (r.code<65536))&&(pW r.op&&tv r (Kr r)) else if r.kind=3 then vM r.gu r.gv r.gc r.gok&&tv r (Kr r) else false
def B4(r:mv):AV:=if r.kind=1 then .cm 1 (gJ (r.kind :: ((if mm r.op.h then gy r.op.h else [])++[u8 r.user]))) none
 else if r.kind=2 then .cm 1 (gJ (r.kind :: ([u8 (r.code / 256),u8 r.code]++(if pW r.op then oY r.op else [])))) none
 else if r.kind=3 then (if vM r.gu r.gv r.gc r.gok then .cm 1 (gJ (r.kind :: Be r.gu r.gv r.gc r.gok)) none else .cm 1 [a8 r.kind] (some 1)) else .cm 1 [a8 r.kind] (some 1)
theorem GY(k:UInt8)(u:Int)(bg:UInt8)(aP:UInt8)(aO:UInt32)(aT:UInt8)(aW:Int)(ba:UInt8)(aZ:UInt32)(bc:UInt8)(bf:Int)(au:Int)(az:UInt8)(ay:UInt32)(ax:UInt8)(aw:Int)(aC:UInt8)(aA:UInt32)(c g1:Int)(v:UInt8)(w:UInt32)(o:Bool){x:AV}{l:List Int}(hx:Sl 1 (rows l) x)(hl:l.length<2000000) :
 bj env 82 [.agg [a8 k,aI u,a8 bg,a8 aP,aF aO,a8 aT,aI aW,a8 ba,aF aZ,a8 bc,aI bf,aI au,a8 az,aF ay,a8 ax,aI aw,a8 aC,aF aA,x,aI c,aI g1,a8 v,aF w,aB o]]=some (.tup [B4 ⟨k,u,(⟨bg,⟨aP,aO,aT⟩,aW,⟨⟨⟨ba,aZ,bc⟩,bf⟩,au⟩,⟨⟨az,ay,ax⟩,aw⟩,⟨aC,aA⟩,l⟩:bQ),c,g1,v,w,o⟩,aB (px ⟨k,u,(⟨bg,⟨aP,aO,aT⟩,aW,⟨⟨⟨ba,aZ,bc⟩,bf⟩,au⟩,⟨⟨az,ay,ax⟩,aw⟩,⟨aC,aA⟩,l⟩:bQ),c,g1,v,w,o⟩)]):=by
 refine aJ (fn:=Tryz.f82) (c:=iA) rfl (by kernel_rfl) (by kernel_rfl) (by kernel_rfl) (by kernel_rfl) ?_;refine mz _ _ _ fun g=>?_
 have hr:=hx.r
 have hSm:=fun k' u' (kF:UInt8) (kE:UInt8) (k8:UInt32) (jd:UInt8) (M6:Int) (M4:UInt8) (MZ:UInt32) (MY:UInt8) (MX:Int) (CC:Int) (CB:UInt8) (CA:UInt32) (Cz:UInt8) (Cy:Int) (Cx:UInt8) (Cw:UInt32) c' g' v' w' o' (y:AV) (m:List Int) (hy:Sl 1 (rows m) y)=>Jg k k' u u' bg aP aO aT aW ba aZ bc bf au az ay ax aw aC aA kF kE k8 jd M6 M4 MZ MY MX CC CB CA Cz Cy Cx Cw c c' g1 g' v v' w w' o o' hx hy (by omega)
 by_cases k1:k=1
 ·subst k1
  have hs:=hSm 1 u 0 aP aO aT 0 0 0 0 0 0 0 0 0 0 0 0 0 0 0 0 false dg [] (.inl ⟨rfl,rfl⟩)
  have hw:px ⟨1,u,(⟨bg,⟨aP,aO,aT⟩,aW,⟨⟨⟨ba,aZ,bc⟩,bf⟩,au⟩,⟨⟨az,ay,ax⟩,aw⟩,⟨aC,aA⟩,l⟩:bQ),c,g1,v,w,o⟩=((decide (0≤u)&&decide (u≤255))&&(mm ⟨aP,aO,aT⟩&&tv ⟨1,u,(⟨bg,⟨aP,aO,aT⟩,aW,⟨⟨⟨ba,aZ,bc⟩,bf⟩,au⟩,⟨⟨az,ay,ax⟩,aw⟩,⟨aC,aA⟩,l⟩:bQ),c,g1,v,w,o⟩ ⟨1,u,⟨0,⟨aP,aO,aT⟩,0,⟨⟨⟨0,0,0⟩,0⟩,0⟩,⟨⟨0,0,0⟩,0⟩,⟨0,0⟩,[]⟩,0,0,0,0,false⟩)):=rfl
  have hz:B4 ⟨1,u,(⟨bg,⟨aP,aO,aT⟩,aW,⟨⟨⟨ba,aZ,bc⟩,bf⟩,au⟩,⟨⟨az,ay,ax⟩,aw⟩,⟨aC,aA⟩,l⟩:bQ),c,g1,v,w,o⟩ = .cm 1 (gJ (1 :: ((if mm ⟨aP,aO,aT⟩ then gy ⟨aP,aO,aT⟩ else [])++[u8 u]))) none:=rfl
  rw[hw,hz]
  clear hSm hw hz
  generalize tv ⟨1,u,(⟨bg,⟨aP,aO,aT⟩,aW,⟨⟨⟨ba,aZ,bc⟩,bf⟩,au⟩,⟨⟨az,ay,ax⟩,aw⟩,⟨aC,aA⟩,l⟩:bQ),c,g1,v,w,o⟩ ⟨1,u,⟨0,⟨aP,aO,aT⟩,0,⟨⟨⟨0,0,0⟩,0⟩,0⟩,⟨⟨0,0,0⟩,0⟩,⟨0,0⟩,[]⟩,0,0,0,0,false⟩=sm at *
  cases hh:mm ⟨aP,aO,aT⟩<;>by_cases c0:0≤u<;>by_cases c2:u≤255
  all_goals simp[ah,ai,ae,af,ad, *,cq,gy,gJ,HQ]
 ·by_cases k2:k=2
  ·subst k2
   have hs:=hSm 2 0 bg aP aO aT aW ba aZ bc bf au az ay ax aw aC aA c 0 0 0 false x l hx
   have hw:px ⟨2,u,(⟨bg,⟨aP,aO,aT⟩,aW,⟨⟨⟨ba,aZ,bc⟩,bf⟩,au⟩,⟨⟨az,ay,ax⟩,aw⟩,⟨aC,aA⟩,l⟩:bQ),c,g1,v,w,o⟩=((!decide (-1∈l)&&decide (0≤c)&&decide (c<65536))&&(pW (⟨bg,⟨aP,aO,aT⟩,aW,⟨⟨⟨ba,aZ,bc⟩,bf⟩,au⟩,⟨⟨az,ay,ax⟩,aw⟩,⟨aC,aA⟩,l⟩:bQ)&&tv ⟨2,u,(⟨bg,⟨aP,aO,aT⟩,aW,⟨⟨⟨ba,aZ,bc⟩,bf⟩,au⟩,⟨⟨az,ay,ax⟩,aw⟩,⟨aC,aA⟩,l⟩:bQ),c,g1,v,w,o⟩ ⟨2,0,(⟨bg,⟨aP,aO,aT⟩,aW,⟨⟨⟨ba,aZ,bc⟩,bf⟩,au⟩,⟨⟨az,ay,ax⟩,aw⟩,⟨aC,aA⟩,l⟩:bQ),c,0,0,0,false⟩)):=rfl
   have hz:B4 ⟨2,u,(⟨bg,⟨aP,aO,aT⟩,aW,⟨⟨⟨ba,aZ,bc⟩,bf⟩,au⟩,⟨⟨az,ay,ax⟩,aw⟩,⟨aC,aA⟩,l⟩:bQ),c,g1,v,w,o⟩ = .cm 1 (gJ (2 :: ([u8 (c / 256),u8 c]++(if pW (⟨bg,⟨aP,aO,aT⟩,aW,⟨⟨⟨ba,aZ,bc⟩,bf⟩,au⟩,⟨⟨az,ay,ax⟩,aw⟩,⟨aC,aA⟩,l⟩:bQ) then oY (⟨bg,⟨aP,aO,aT⟩,aW,⟨⟨⟨ba,aZ,bc⟩,bf⟩,au⟩,⟨⟨az,ay,ax⟩,aw⟩,⟨aC,aA⟩,l⟩:bQ) else [])))) none:=rfl
   have hP:=Jh bg aP aO aT aW ba aZ bc bf au az ay ax aw aC aA hx (by omega)
   have hB:=NF bg aP aO aT aW ba aZ bc bf au az ay ax aw aC aA hx hl
   rw[hw,hz]
   unfold Qu at hB
   have hlen:pW (⟨bg,⟨aP,aO,aT⟩,aW,⟨⟨⟨ba,aZ,bc⟩,bf⟩,au⟩,⟨⟨az,ay,ax⟩,aw⟩,⟨aC,aA⟩,l⟩:bQ)=true→(oY (⟨bg,⟨aP,aO,aT⟩,aW,⟨⟨⟨ba,aZ,bc⟩,bf⟩,au⟩,⟨⟨az,ay,ax⟩,aw⟩,⟨aC,aA⟩,l⟩:bQ)).length≤293∧24≤(oY (⟨bg,⟨aP,aO,aT⟩,aW,⟨⟨⟨ba,aZ,bc⟩,bf⟩,au⟩,⟨⟨az,ay,ax⟩,aw⟩,⟨aC,aA⟩,l⟩:bQ)).length:=fun h=>by rw[Fx h];exact⟨(EZ h).2,(EZ h).1⟩
   clear hSm hw hz
   generalize tv ⟨2,u,(⟨bg,⟨aP,aO,aT⟩,aW,⟨⟨⟨ba,aZ,bc⟩,bf⟩,au⟩,⟨⟨az,ay,ax⟩,aw⟩,⟨aC,aA⟩,l⟩:bQ),c,g1,v,w,o⟩ ⟨2,0,(⟨bg,⟨aP,aO,aT⟩,aW,⟨⟨⟨ba,aZ,bc⟩,bf⟩,au⟩,⟨⟨az,ay,ax⟩,aw⟩,⟨aC,aA⟩,l⟩:bQ),c,0,0,0,false⟩=sm at *
   generalize oY (⟨bg,⟨aP,aO,aT⟩,aW,⟨⟨⟨ba,aZ,bc⟩,bf⟩,au⟩,⟨⟨az,ay,ax⟩,aw⟩,⟨aC,aA⟩,l⟩:bQ)=bs at *
   generalize decide (-1∈l)=pl at *
   cases hh:pW (⟨bg,⟨aP,aO,aT⟩,aW,⟨⟨⟨ba,aZ,bc⟩,bf⟩,au⟩,⟨⟨az,ay,ax⟩,aw⟩,⟨aC,aA⟩,l⟩:bQ) with
   | false =>
    rw[hh,if_neg (by decide)]at hB
    clear hlen
    cases pl<;>by_cases c0:0≤c<;>by_cases c2:c<65536
    all_goals simp[ah,ai,ae,af,ad, *,cq,gJ,eZ,eC]
   | true =>
    rw[hh,if_pos rfl]at hB
    have hl2:=hlen hh
    have f1:bs.length+1≤140737488355328∧bs.length+1+1≤140737488355328∧bs.length+1+1+1≤140737488355328:=by omega
    have f0:2+bs.length=bs.length+1+1:=by omega
    have f3:1+(bs.length+1+1)≤140737488355328∧1+(bs.length+1+1)=bs.length+1+1+1:=by omega
    have f2:2+bs.length≤140737488355328∧1+(2+bs.length)≤140737488355328∧2<2+bs.length∧0<bs.length:=by omega
    have hne:bs≠[]:=by rintro rfl;simp at f2
    clear hlen
    cases pl<;>by_cases c0:0≤c<;>by_cases c2:c<65536
    all_goals simp[ah,ai,ae,af,ad, *,cq,gJ,eZ,eC]
  ·by_cases k3:k=3
   ·subst k3
    have hs:=hSm 3 0 0 0 0 0 0 0 0 0 0 0 0 0 0 0 0 0 0 g1 v w o dg [] (.inl ⟨rfl,rfl⟩)
    have hw:px ⟨3,u,(⟨bg,⟨aP,aO,aT⟩,aW,⟨⟨⟨ba,aZ,bc⟩,bf⟩,au⟩,⟨⟨az,ay,ax⟩,aw⟩,⟨aC,aA⟩,l⟩:bQ),c,g1,v,w,o⟩=(vM g1 v w o&&tv ⟨3,u,(⟨bg,⟨aP,aO,aT⟩,aW,⟨⟨⟨ba,aZ,bc⟩,bf⟩,au⟩,⟨⟨az,ay,ax⟩,aw⟩,⟨aC,aA⟩,l⟩:bQ),c,g1,v,w,o⟩ ⟨3,0,⟨0,⟨0,0,0⟩,0,⟨⟨⟨0,0,0⟩,0⟩,0⟩,⟨⟨0,0,0⟩,0⟩,⟨0,0⟩,[]⟩,0,g1,v,w,o⟩):=rfl
    have hz:B4 ⟨3,u,(⟨bg,⟨aP,aO,aT⟩,aW,⟨⟨⟨ba,aZ,bc⟩,bf⟩,au⟩,⟨⟨az,ay,ax⟩,aw⟩,⟨aC,aA⟩,l⟩:bQ),c,g1,v,w,o⟩=if vM g1 v w o then .cm 1 (gJ (3 :: Be g1 v w o)) none else .cm 1 [a8 3] (some 1):=rfl
    rw[hw,hz]
    clear hSm hw hz
    generalize tv ⟨3,u,(⟨bg,⟨aP,aO,aT⟩,aW,⟨⟨⟨ba,aZ,bc⟩,bf⟩,au⟩,⟨⟨az,ay,ax⟩,aw⟩,⟨aC,aA⟩,l⟩:bQ),c,g1,v,w,o⟩ ⟨3,0,⟨0,⟨0,0,0⟩,0,⟨⟨⟨0,0,0⟩,0⟩,0⟩,⟨⟨0,0,0⟩,0⟩,⟨0,0⟩,[]⟩,0,g1,v,w,o⟩=sm at *
    cases hh:vM g1 v w o
    all_goals simp[ah,ai,ae,af,ad, *,cq,Be,gJ,HQ]
   ·have hw:px ⟨k,u,(⟨bg,⟨aP,aO,aT⟩,aW,⟨⟨⟨ba,aZ,bc⟩,bf⟩,au⟩,⟨⟨az,ay,ax⟩,aw⟩,⟨aC,aA⟩,l⟩:bQ),c,g1,v,w,o⟩=false:=by unfold px;rw[if_neg k1,if_neg k2,if_neg k3]
    have hz:B4 ⟨k,u,(⟨bg,⟨aP,aO,aT⟩,aW,⟨⟨⟨ba,aZ,bc⟩,bf⟩,au⟩,⟨⟨az,ay,ax⟩,aw⟩,⟨aC,aA⟩,l⟩:bQ),c,g1,v,w,o⟩ = .cm 1 [a8 k] (some 1):=by unfold B4;rw[if_neg k1,if_neg k2,if_neg k3]
    rw[hw,hz]
    clear hSm hw hz
    simp[ah,ai,ae,af,ad, *,cq]
end Go.Proofs.YtdbiffjdomokfaaGreat
