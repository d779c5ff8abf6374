/-
  Records: their bytes, and how many blocks they have. No statement of a seat is proved here.
-/
import Derived.Test.YtmkmimgokagimaaGreatMOpSame
import Derived.Test.YtmkmimgokagimaaGreatMIdBytes
set_option linter.unusedVariables false
set_option linter.unusedSimpArgs false
set_option linter.unusedSectionVars false
set_option linter.unnecessarySimpa false
set_option maxRecDepth 100000
namespace Go.Proofs.YtmkmimgokagimaaGreat
open Go.Ab
attribute [local simp] bJ bw bt bG bF cL kN bX bx bD cR cQ cr bY bh ct List.take_of_length_le
def I8(v:UInt8)(c:UInt32)(ok:Bool):Bool:=decide (v≤15)&&(ok||(decide (v=0)&&decide (c=0)))
def z7(user:Int)(v:UInt8)(c:UInt32)(ok:Bool):Bool:=decide (0≤user)&&decide (user<8)&&I8 v c ok
@[simp] theorem JN(user:Int)(v:UInt8)(c:UInt32)(ok:Bool):bj env 202 [.agg [aI user,a8 v,aF c,aB ok]]=some (aI (bad (z7 user v c ok))):=by
 refine aG (fn:=Tryz.f202) (c:=yA) rfl (by kernel_rfl) (by kernel_rfl) (by kernel_rfl) (by kernel_rfl) ?_;refine ED _ _ _ fun g=>?_
 cases ok
 ·simp[ah,ai,ae,af,ab, *,sL,ke,eE]
  repeat' ((first | refine mZ (fun h=>?_) (fun h=>?_) | refine lz (fun h=>?_) (fun h=>?_) | refine lA (fun h=>?_) (fun h=>?_) | refine lx (fun h=>?_) (fun h=>?_) | refine ly (fun h=>?_) (fun h=>?_))<;>(try simp only[decide_eq_true_eq,decide_eq_false_iff_not,Bool.not_eq_true',Bool.not_eq_false',Bool.and_eq_true,Bool.or_eq_true]at h)<;>(try simp[ah,ai,ae,af,ab, *,ke,eE,z7,I8,bad]))
  all_goals (try grind)
 ·simp[ah,ai,ae,af,ab, *,sL,ke,eE]
  repeat' ((first | refine mZ (fun h=>?_) (fun h=>?_) | refine lz (fun h=>?_) (fun h=>?_) | refine lA (fun h=>?_) (fun h=>?_) | refine lx (fun h=>?_) (fun h=>?_) | refine ly (fun h=>?_) (fun h=>?_))<;>(try simp only[decide_eq_true_eq,decide_eq_false_iff_not,Bool.not_eq_true',Bool.not_eq_false',Bool.and_eq_true,Bool.or_eq_true]at h)<;>(try simp[ah,ai,ae,af,ab, *,ke,eE,z7,I8,bad]))
  all_goals (try grind)
def FD(user:Int)(v:UInt8)(c:UInt32)(ok:Bool):List UInt8:=u8 user :: (if ok then 1 else 0) :: v :: be 4 c.toNat
@[simp] theorem ad0(user:Int)(v:UInt8)(c:UInt32)(ok:Bool):bj env 164 [.agg [aI user,a8 v,aF c,aB ok]]=some (if z7 user v c ok then .tup [.ck 1 (iB (FD user v c ok)) none,aI 0] else .tup [cp,aI 8]):=by
 refine aG (fn:=Tryz.f164) (c:=BZ) rfl (by kernel_rfl) (by kernel_rfl) (by kernel_rfl) (by kernel_rfl) ?_;refine Ij _ _ _ fun g=>?_
 by_cases h:z7 user v c ok=true
 ·have h1:v≤15:=by simp[z7,I8]at h;exact h.2.1
  have hh:fL ⟨v,c,0⟩=true:=by simp[fL,h1]
  cases ok<;>simp[ah,ai,ae,af,ab, *,wQ,bad,FD,il,iB,MQ]
 ·simp at h
  simp[ah,ai,ae,af,ab, *,wQ,bad]
structure fY where
 kind:UInt8
 user:Int
 op:bz
 code:Int
 gu:Int
 gv:UInt8
 gc:UInt32
 gok:Bool
def qO(a b:fY):Bool:=decide (a.kind=b.kind)&&(decide (a.user=b.user)&&(C6 a.op b.op&&(decide (a.code=b.code)&&(decide (a.gu=b.gu)&&(decide (a.gv=b.gv)&&decide (a.gc=b.gc)&&decide (a.gok=b.gok))))))
theorem Of(k1 k2:UInt8)(u1 u2:Int)(ba:UInt8)(aO:UInt8)(aN:UInt32)(aT:UInt8)(aV:Int)(aX:UInt8)(aW:UInt32)(aY:UInt8)(aZ:Int)(an:Int)(ay:UInt8)(ax:UInt32)(aw:UInt8)(au:Int)(aA:UInt8)(az:UInt32)(kg:UInt8)(kf:UInt8)(kM:UInt32)(iE:UInt8)(Gp:Int)(Gn:UInt8)(Gm:UInt32)(Gl:UInt8)(Gk:Int)(tf:Int)(ta:UInt8)(s9:UInt32)(s8:UInt8)(s7:Int)(sZ:UInt8)(sY:UInt32)(c1 c2 g1 g2:Int)(v1 v2:UInt8)(w1 w2:UInt32)(o1 o2:Bool){x y:AV}{l m:List Int}(hx:Sl 1 (rows l) x)(hy:Sl 1 (rows m) y)(hl:l.length<1000000000) :
 bj env 165 [.agg [a8 k1,aI u1,a8 ba,a8 aO,aF aN,a8 aT,aI aV,a8 aX,aF aW,a8 aY,aI aZ,aI an,a8 ay,aF ax,a8 aw,aI au,a8 aA,aF az,x,aI c1,aI g1,a8 v1,aF w1,aB o1],.agg [a8 k2,aI u2,a8 kg,a8 kf,aF kM,a8 iE,aI Gp,a8 Gn,aF Gm,a8 Gl,aI Gk,aI tf,a8 ta,aF s9,a8 s8,aI s7,a8 sZ,aF sY,y,aI c2,aI g2,a8 v2,aF w2,aB o2]] =
  some (aB (qO ⟨k1,u1,(⟨ba,⟨aO,aN,aT⟩,aV,⟨⟨⟨aX,aW,aY⟩,aZ⟩,an⟩,⟨⟨ay,ax,aw⟩,au⟩,⟨aA,az⟩,l⟩:bz),c1,g1,v1,w1,o1⟩ ⟨k2,u2,(⟨kg,⟨kf,kM,iE⟩,Gp,⟨⟨⟨Gn,Gm,Gl⟩,Gk⟩,tf⟩,⟨⟨ta,s9,s8⟩,s7⟩,⟨sZ,sY⟩,m⟩:bz),c2,g2,v2,w2,o2⟩)):=by
 refine aG (fn:=Tryz.f165) (c:=ym) rfl (by kernel_rfl) (by kernel_rfl) (by kernel_rfl) (by kernel_rfl) ?_;refine Ew _ _ _ _ fun g=>?_
 have hq:=Qo ba aO aN aT aV aX aW aY aZ an ay ax aw au aA az kg kf kM iE Gp Gn Gm Gl Gk tf ta s9 s8 s7 sZ sY hx hy hl
 have hr:=hx.r
 have hr2:=hy.r
 unfold qO
 cases e1:decide (k1=k2) with
 | false=>simp[ah,ai,ae,af,ab, *,kG,ke,eE]
 | true =>
 cases e2:decide (u1=u2) with
 | false=>simp[ah,ai,ae,af,ab, *,kG,ke,eE]
 | true =>
 cases e3:C6 (⟨ba,⟨aO,aN,aT⟩,aV,⟨⟨⟨aX,aW,aY⟩,aZ⟩,an⟩,⟨⟨ay,ax,aw⟩,au⟩,⟨aA,az⟩,l⟩:bz) (⟨kg,⟨kf,kM,iE⟩,Gp,⟨⟨⟨Gn,Gm,Gl⟩,Gk⟩,tf⟩,⟨⟨ta,s9,s8⟩,s7⟩,⟨sZ,sY⟩,m⟩:bz) with
 | false=>simp[ah,ai,ae,af,ab, *,kG,ke,eE]
 | true =>
 cases e4:decide (c1=c2) with
 | false=>simp[ah,ai,ae,af,ab, *,kG,ke,eE]
 | true=>simp[ah,ai,ae,af,ab, *,kG,ke,eE]
def MW:bz:=⟨0,⟨0,0,0⟩,0,⟨⟨⟨0,0,0⟩,0⟩,0⟩,⟨⟨0,0,0⟩,0⟩,⟨0,0⟩,[]⟩
def PE(r:fY):fY:=if r.kind=1 then ⟨1,r.user, { MW with h:=r.op.h},0,0,0,0,false⟩ else if r.kind=2 then ⟨2,0,r.op,r.code,0,0,0,false⟩ else ⟨r.kind,0,MW,0,r.gu,r.gv,r.gc,r.gok⟩
def n8(r:fY):Bool:=if r.kind=1 then (decide (0≤r.user)&&decide (r.user≤255))&&(fL r.op.h&&qO r (PE r)) else if r.kind=2 then (!decide (-1∈r.op.l)&&decide (0≤r.code)&&decide (r.code<65536))&&(la r.op&&qO r (PE r)) else if r.kind=3 then z7 r.gu r.gv r.gc r.gok&&qO r (PE r) else false
def GG(r:fY):AV:=if r.kind=1 then .ck 1 (iB (r.kind :: ((if fL r.op.h then il r.op.h else [])++[u8 r.user]))) none
 else if r.kind=2 then .ck 1 (iB (r.kind :: ([u8 (r.code / 256),u8 r.code]++(if la r.op then qZ r.op else [])))) none
 else if r.kind=3 then (if z7 r.gu r.gv r.gc r.gok then .ck 1 (iB (r.kind :: FD r.gu r.gv r.gc r.gok)) none else .ck 1 [a8 r.kind] (some 1)) else .ck 1 [a8 r.kind] (some 1)
theorem LQ(k:UInt8)(u:Int)(ba:UInt8)(aO:UInt8)(aN:UInt32)(aT:UInt8)(aV:Int)(aX:UInt8)(aW:UInt32)(aY:UInt8)(aZ:Int)(an:Int)(ay:UInt8)(ax:UInt32)(aw:UInt8)(au:Int)(aA:UInt8)(az:UInt32)(c g1:Int)(v:UInt8)(w:UInt32)(o:Bool){x:AV}{l:List Int}(hx:Sl 1 (rows l) x)(hl:l.length<2000000) :
 bj env 101 [.agg [a8 k,aI u,a8 ba,a8 aO,aF aN,a8 aT,aI aV,a8 aX,aF aW,a8 aY,aI aZ,aI an,a8 ay,aF ax,a8 aw,aI au,a8 aA,aF az,x,aI c,aI g1,a8 v,aF w,aB o]]=some (.tup [GG ⟨k,u,(⟨ba,⟨aO,aN,aT⟩,aV,⟨⟨⟨aX,aW,aY⟩,aZ⟩,an⟩,⟨⟨ay,ax,aw⟩,au⟩,⟨aA,az⟩,l⟩:bz),c,g1,v,w,o⟩,aB (n8 ⟨k,u,(⟨ba,⟨aO,aN,aT⟩,aV,⟨⟨⟨aX,aW,aY⟩,aZ⟩,an⟩,⟨⟨ay,ax,aw⟩,au⟩,⟨aA,az⟩,l⟩:bz),c,g1,v,w,o⟩)]):=by
 refine aG (fn:=Tryz.f101) (c:=jh) rfl (by kernel_rfl) (by kernel_rfl) (by kernel_rfl) (by kernel_rfl) ?_;refine oG _ _ _ fun g=>?_
 have hr:=hx.r
 have hSm:=fun k' u' (kg:UInt8) (kf:UInt8) (kM:UInt32) (iE:UInt8) (Gp:Int) (Gn:UInt8) (Gm:UInt32) (Gl:UInt8) (Gk:Int) (tf:Int) (ta:UInt8) (s9:UInt32) (s8:UInt8) (s7:Int) (sZ:UInt8) (sY:UInt32) c' g' v' w' o' (y:AV) (m:List Int) (hy:Sl 1 (rows m) y)=>Of k k' u u' ba aO aN aT aV aX aW aY aZ an ay ax aw au aA az kg kf kM iE Gp Gn Gm Gl Gk tf ta s9 s8 s7 sZ sY c c' g1 g' v v' w w' o o' hx hy (by omega)
 by_cases k1:k=1
 ·subst k1
  have hs:=hSm 1 u 0 aO aN aT 0 0 0 0 0 0 0 0 0 0 0 0 0 0 0 0 false cp [] (.inl ⟨rfl,rfl⟩)
  have hw:n8 ⟨1,u,(⟨ba,⟨aO,aN,aT⟩,aV,⟨⟨⟨aX,aW,aY⟩,aZ⟩,an⟩,⟨⟨ay,ax,aw⟩,au⟩,⟨aA,az⟩,l⟩:bz),c,g1,v,w,o⟩=((decide (0≤u)&&decide (u≤255))&&(fL ⟨aO,aN,aT⟩&&qO ⟨1,u,(⟨ba,⟨aO,aN,aT⟩,aV,⟨⟨⟨aX,aW,aY⟩,aZ⟩,an⟩,⟨⟨ay,ax,aw⟩,au⟩,⟨aA,az⟩,l⟩:bz),c,g1,v,w,o⟩ ⟨1,u,⟨0,⟨aO,aN,aT⟩,0,⟨⟨⟨0,0,0⟩,0⟩,0⟩,⟨⟨0,0,0⟩,0⟩,⟨0,0⟩,[]⟩,0,0,0,0,false⟩)):=rfl
  have hz:GG ⟨1,u,(⟨ba,⟨aO,aN,aT⟩,aV,⟨⟨⟨aX,aW,aY⟩,aZ⟩,an⟩,⟨⟨ay,ax,aw⟩,au⟩,⟨aA,az⟩,l⟩:bz),c,g1,v,w,o⟩ = .ck 1 (iB (1 :: ((if fL ⟨aO,aN,aT⟩ then il ⟨aO,aN,aT⟩ else [])++[u8 u]))) none:=rfl
  rw[hw,hz]
  clear hSm hw hz
  generalize qO ⟨1,u,(⟨ba,⟨aO,aN,aT⟩,aV,⟨⟨⟨aX,aW,aY⟩,aZ⟩,an⟩,⟨⟨ay,ax,aw⟩,au⟩,⟨aA,az⟩,l⟩:bz),c,g1,v,w,o⟩ ⟨1,u,⟨0,⟨aO,aN,aT⟩,0,⟨⟨⟨0,0,0⟩,0⟩,0⟩,⟨⟨0,0,0⟩,0⟩,⟨0,0⟩,[]⟩,0,0,0,0,false⟩=sm at *
  cases hh:fL ⟨aO,aN,aT⟩<;>by_cases c0:0≤u<;>by_cases c2:u≤255
  all_goals simp[ah,ai,ae,af,ab, *,cG,il,iB,MQ]
 ·by_cases k2:k=2
  ·subst k2
   have hs:=hSm 2 0 ba aO aN aT aV aX aW aY aZ an ay ax aw au aA az c 0 0 0 false x l hx
   have hw:n8 ⟨2,u,(⟨ba,⟨aO,aN,aT⟩,aV,⟨⟨⟨aX,aW,aY⟩,aZ⟩,an⟩,⟨⟨ay,ax,aw⟩,au⟩,⟨aA,az⟩,l⟩:bz),c,g1,v,w,o⟩=((!decide (-1∈l)&&decide (0≤c)&&decide (c<65536))&&(la (⟨ba,⟨aO,aN,aT⟩,aV,⟨⟨⟨aX,aW,aY⟩,aZ⟩,an⟩,⟨⟨ay,ax,aw⟩,au⟩,⟨aA,az⟩,l⟩:bz)&&qO ⟨2,u,(⟨ba,⟨aO,aN,aT⟩,aV,⟨⟨⟨aX,aW,aY⟩,aZ⟩,an⟩,⟨⟨ay,ax,aw⟩,au⟩,⟨aA,az⟩,l⟩:bz),c,g1,v,w,o⟩ ⟨2,0,(⟨ba,⟨aO,aN,aT⟩,aV,⟨⟨⟨aX,aW,aY⟩,aZ⟩,an⟩,⟨⟨ay,ax,aw⟩,au⟩,⟨aA,az⟩,l⟩:bz),c,0,0,0,false⟩)):=rfl
   have hz:GG ⟨2,u,(⟨ba,⟨aO,aN,aT⟩,aV,⟨⟨⟨aX,aW,aY⟩,aZ⟩,an⟩,⟨⟨ay,ax,aw⟩,au⟩,⟨aA,az⟩,l⟩:bz),c,g1,v,w,o⟩ = .ck 1 (iB (2 :: ([u8 (c / 256),u8 c]++(if la (⟨ba,⟨aO,aN,aT⟩,aV,⟨⟨⟨aX,aW,aY⟩,aZ⟩,an⟩,⟨⟨ay,ax,aw⟩,au⟩,⟨aA,az⟩,l⟩:bz) then qZ (⟨ba,⟨aO,aN,aT⟩,aV,⟨⟨⟨aX,aW,aY⟩,aZ⟩,an⟩,⟨⟨ay,ax,aw⟩,au⟩,⟨aA,az⟩,l⟩:bz) else [])))) none:=rfl
   have hP:=Ht ba aO aN aT aV aX aW aY aZ an ay ax aw au aA az hx (by omega)
   have hB:=SV ba aO aN aT aV aX aW aY aZ an ay ax aw au aA az hx hl
   rw[hw,hz]
   unfold V6 at hB
   have hlen:la (⟨ba,⟨aO,aN,aT⟩,aV,⟨⟨⟨aX,aW,aY⟩,aZ⟩,an⟩,⟨⟨ay,ax,aw⟩,au⟩,⟨aA,az⟩,l⟩:bz)=true→(qZ (⟨ba,⟨aO,aN,aT⟩,aV,⟨⟨⟨aX,aW,aY⟩,aZ⟩,an⟩,⟨⟨ay,ax,aw⟩,au⟩,⟨aA,az⟩,l⟩:bz)).length≤293∧24≤(qZ (⟨ba,⟨aO,aN,aT⟩,aV,⟨⟨⟨aX,aW,aY⟩,aZ⟩,an⟩,⟨⟨ay,ax,aw⟩,au⟩,⟨aA,az⟩,l⟩:bz)).length:=fun h=>by rw[Ke h];exact⟨(JE h).2,(JE h).1⟩
   clear hSm hw hz
   generalize qO ⟨2,u,(⟨ba,⟨aO,aN,aT⟩,aV,⟨⟨⟨aX,aW,aY⟩,aZ⟩,an⟩,⟨⟨ay,ax,aw⟩,au⟩,⟨aA,az⟩,l⟩:bz),c,g1,v,w,o⟩ ⟨2,0,(⟨ba,⟨aO,aN,aT⟩,aV,⟨⟨⟨aX,aW,aY⟩,aZ⟩,an⟩,⟨⟨ay,ax,aw⟩,au⟩,⟨aA,az⟩,l⟩:bz),c,0,0,0,false⟩=sm at *
   generalize qZ (⟨ba,⟨aO,aN,aT⟩,aV,⟨⟨⟨aX,aW,aY⟩,aZ⟩,an⟩,⟨⟨ay,ax,aw⟩,au⟩,⟨aA,az⟩,l⟩:bz)=bs at *
   generalize decide (-1∈l)=pl at *
   cases hh:la (⟨ba,⟨aO,aN,aT⟩,aV,⟨⟨⟨aX,aW,aY⟩,aZ⟩,an⟩,⟨⟨ay,ax,aw⟩,au⟩,⟨aA,az⟩,l⟩:bz) with
   | false =>
    rw[hh,if_neg (by decide)]at hB
    clear hlen
    cases pl<;>by_cases c0:0≤c<;>by_cases c2:c<65536
    all_goals simp[ah,ai,ae,af,ab, *,cG,iB,fB,eX]
   | true =>
    rw[hh,if_pos rfl]at hB
    have hl2:=hlen hh
    have f1:bs.length+1≤140737488355328∧bs.length+1+1≤140737488355328∧bs.length+1+1+1≤140737488355328:=by omega
    have f0:2+bs.length=bs.length+1+1:=by omega
    have f3:1+(bs.length+1+1)≤140737488355328∧1+(bs.length+1+1)=bs.length+1+1+1:=by omega
    have f2:2+bs.length≤140737488355328∧1+(2+bs.length)≤140737488355328∧2<2+bs.length∧0<bs.length:=by omega
    have hne:bs≠[]:=by rintro rfl;simp at f2
    clear hlen
    cases pl<;>by_cases c0:0≤c<;>by_cases c2:c<65536
    all_goals simp[ah,ai,ae,af,ab, *,cG,iB,fB,eX]
  ·by_cases k3:k=3
   ·subst k3
    have hs:=hSm 3 0 0 0 0 0 0 0 0 0 0 0 0 0 0 0 0 0 0 g1 v w o cp [] (.inl ⟨rfl,rfl⟩)
    have hw:n8 ⟨3,u,(⟨ba,⟨aO,aN,aT⟩,aV,⟨⟨⟨aX,aW,aY⟩,aZ⟩,an⟩,⟨⟨ay,ax,aw⟩,au⟩,⟨aA,az⟩,l⟩:bz),c,g1,v,w,o⟩=(z7 g1 v w o&&qO ⟨3,u,(⟨ba,⟨aO,aN,aT⟩,aV,⟨⟨⟨aX,aW,aY⟩,aZ⟩,an⟩,⟨⟨ay,ax,aw⟩,au⟩,⟨aA,az⟩,l⟩:bz),c,g1,v,w,o⟩ ⟨3,0,⟨0,⟨0,0,0⟩,0,⟨⟨⟨0,0,0⟩,0⟩,0⟩,⟨⟨0,0,0⟩,0⟩,⟨0,0⟩,[]⟩,0,g1,v,w,o⟩):=rfl
    have hz:GG ⟨3,u,(⟨ba,⟨aO,aN,aT⟩,aV,⟨⟨⟨aX,aW,aY⟩,aZ⟩,an⟩,⟨⟨ay,ax,aw⟩,au⟩,⟨aA,az⟩,l⟩:bz),c,g1,v,w,o⟩=if z7 g1 v w o then .ck 1 (iB (3 :: FD g1 v w o)) none else .ck 1 [a8 3] (some 1):=rfl
    rw[hw,hz]
    clear hSm hw hz
    generalize qO ⟨3,u,(⟨ba,⟨aO,aN,aT⟩,aV,⟨⟨⟨aX,aW,aY⟩,aZ⟩,an⟩,⟨⟨ay,ax,aw⟩,au⟩,⟨aA,az⟩,l⟩:bz),c,g1,v,w,o⟩ ⟨3,0,⟨0,⟨0,0,0⟩,0,⟨⟨⟨0,0,0⟩,0⟩,0⟩,⟨⟨0,0,0⟩,0⟩,⟨0,0⟩,[]⟩,0,g1,v,w,o⟩=sm at *
    cases hh:z7 g1 v w o
    all_goals simp[ah,ai,ae,af,ab, *,cG,FD,iB,MQ]
   ·have hw:n8 ⟨k,u,(⟨ba,⟨aO,aN,aT⟩,aV,⟨⟨⟨aX,aW,aY⟩,aZ⟩,an⟩,⟨⟨ay,ax,aw⟩,au⟩,⟨aA,az⟩,l⟩:bz),c,g1,v,w,o⟩=false:=by unfold n8;rw[if_neg k1,if_neg k2,if_neg k3]
    have hz:GG ⟨k,u,(⟨ba,⟨aO,aN,aT⟩,aV,⟨⟨⟨aX,aW,aY⟩,aZ⟩,an⟩,⟨⟨ay,ax,aw⟩,au⟩,⟨aA,az⟩,l⟩:bz),c,g1,v,w,o⟩ = .ck 1 [a8 k] (some 1):=by unfold GG;rw[if_neg k1,if_neg k2,if_neg k3]
    rw[hw,hz]
    clear hSm hw hz
    simp[ah,ai,ae,af,ab, *,cG]
end Go.Proofs.YtmkmimgokagimaaGreat
