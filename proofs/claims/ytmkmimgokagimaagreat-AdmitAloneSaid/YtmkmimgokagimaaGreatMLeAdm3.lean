/-
  What fits counts once: the mathematics. No statement of a seat is proved here.
-/
import Derived.Test.YtmkmimgokagimaaGreatMLeSame
import Derived.Test.YtmkmimgokagimaaGreatMLeOnce3
import Derived.Test.YtmkmimgokagimaaGreatMLeAdm2
set_option linter.unusedVariables false
set_option linter.unusedSimpArgs false
set_option linter.unusedSectionVars false
set_option linter.unnecessarySimpa false
set_option maxRecDepth 100000
namespace Go.Proofs.YtmkmimgokagimaaGreat
open Go.Ab
end Go.Proofs.YtmkmimgokagimaaGreat
namespace Go.Proofs.YtmkmimgokagimaaGreat
open Go.Ab
def xK(b:ep)(v:jS):xB:=nu (bH v b.used)
def nB(h:nY)(l:List (fY × AV)):Int:=l.foldl (fun s p=>if p.1.kind=2∧p.1.op.h=h then p.1.op.serial else s) 0
theorem HI(h:nY)(l:List (fY × AV))(p:fY × AV):nB h (l++[p])=if p.1.kind=2∧p.1.op.h=h then p.1.op.serial else nB h l:=by
 simp[nB]
structure Us (l:List (fY × AV)) (b:ep):Prop where
 ser : ∀h:nY,(gG (bH h b.ses)).s=nB h l∧((gG (bH h b.ses)).o=false→nB h l=0)
 up : ∀h:nY,0≤nB h l∧nB h l<16777216 ∧∀p∈l,p.1.kind=2→p.1.op.h=h→p.1.op.serial≤nB h l
section
variable{us0:List Clear}{qs:List bn}{gr0:Int}{l:List (fY × AV)}{b:ep}{p:fY × AV}(h:Us l b)(his:n8 p.1=true)
include h his
theorem Us.two(k2:p.1.kind=2)(hf:Bx us0 qs gr0 b p.1=true):Us (l++[p]) (rZ b p.1.op p.1.code (mY p.2))∧p.1.op.serial=nB p.1.op.h l+1:=by
 simp only[Bx,Bool.and_eq_true,decide_eq_true_eq]at hf
 obtain⟨ho,_,hsr,hlt,hcode⟩:=hf
 have hop:la p.1.op=true:=by
  unfold n8 at his
  rw[if_neg (by rw[k2];decide),if_pos k2]at his
  simp only[Bool.and_eq_true]at his
  exact his.2.1
 have hser:1≤p.1.op.serial∧p.1.op.serial<16777216:=by
  simp only[la,Bool.and_eq_true,decide_eq_true_eq]at hop
  exact⟨hop.2.1,hop.2.2.1⟩
 have hs0:=(h.ser p.1.op.h).1
 have hup:=h.up p.1.op.h
 have hsw:p.1.op.serial=nB p.1.op.h l+1:=by
  rw[hsr]
  show IntKind.i64.wrap ((gG (bH p.1.op.h b.ses)).s+1)=_
  rw[hs0]
  exact IntWalk.i64_in _ (by omega)
 refine⟨?_,hsw⟩
 have hls : ∀h':nY,nB h' (l++[p])=if h'=p.1.op.h then p.1.op.serial else nB h' l:=fun h'=>by
  rw[HI]
  by_cases e:h'=p.1.op.h
  ·subst e;rw[if_pos ⟨k2,rfl⟩,if_pos rfl]
  ·rw[if_neg (fun hh=>e hh.2.symm),if_neg e]
 refine⟨fun h'=>?_,fun h'=>?_⟩
 ·rw[hls]
  show(gG (bH h' (fO p.1.op.h (uY.av { kP b p.1.op with s:=IntKind.i64.wrap ((kP b p.1.op).s+1)}) b.ses))).s=_∧((gG (bH h' (fO p.1.op.h (uY.av { kP b p.1.op with s:=IntKind.i64.wrap ((kP b p.1.op).s+1)}) b.ses))).o=false→_)
  by_cases e:h'=p.1.op.h
  ·subst e
   rw[pY,Eg,if_pos rfl]
   refine⟨hsr.symm,fun hh=>?_⟩
   simp only at hh
   rw[hh]at ho
   cases ho
  ·rw[od e,if_neg e]
   exact h.ser h'
 ·rw[hls]
  by_cases e:h'=p.1.op.h
  ·subst e
   rw[if_pos rfl]
   refine⟨by omega,by omega,fun q hq hk he=>?_⟩
   rcases List.mem_append.1 hq with hq | hq
   ·have:=hup.2.2 q hq hk he;omega
   ·rw[List.mem_singleton]at hq;subst hq;exact Int.le_refl _
  ·rw[if_neg e]
   refine⟨(h.up h').1,(h.up h').2.1,fun q hq hk he=>?_⟩
   rcases List.mem_append.1 hq with hq | hq
   ·exact(h.up h').2.2 q hq hk he
   ·rw[List.mem_singleton]at hq;subst hq;exact absurd he.symm e
theorem Us.step(hf:rY us0 qs gr0 b p.1=true):Us (l++[p]) (G3 b p):=by
 unfold rY at hf
 unfold G3
 have hother:p.1.kind≠2→(∀h',nB h' (l++[p])=nB h' l) ∧∀h':nY,0≤nB h' l∧nB h' l<16777216 ∧∀q∈l++[p],q.1.kind=2→q.1.op.h=h'→q.1.op.serial≤nB h' l:=by
  intro k2
  refine⟨fun h'=>by rw[HI,if_neg (fun hh=>k2 hh.1)],fun h'=>⟨(h.up h').1,(h.up h').2.1,fun q hq hk he=>?_⟩⟩
  rcases List.mem_append.1 hq with hq | hq
  ·exact(h.up h').2.2 q hq hk he
  ·rw[List.mem_singleton]at hq;subst hq;exact absurd hk k2
 by_cases k1:p.1.kind=1
 ·rw[if_pos k1]at hf ⊢
  obtain⟨hls,hup⟩:=hother (by rw[k1];decide)
  simp only[FG,Bool.and_eq_true,Bool.not_eq_true']at hf
  refine⟨fun h'=>?_,fun h'=>by rw[hls];exact hup h'⟩
  rw[hls]
  show(gG (bH h' (fO p.1.op.h (uY.av ⟨true,p.1.user,0⟩) b.ses))).s=nB h' l∧((gG (bH h' (fO p.1.op.h (uY.av ⟨true,p.1.user,0⟩) b.ses))).o=false→nB h' l=0)
  by_cases e:h'=p.1.op.h
  ·subst e
   rw[pY,Eg]
   exact⟨((h.ser p.1.op.h).2 hf.1).symm,fun h=>by cases h⟩
  ·rw[od e]
   exact h.ser h'
 ·rw[if_neg k1]at hf ⊢
  by_cases k2:p.1.kind=2
  ·rw[if_pos k2]at hf ⊢
   exact(h.two his k2 hf).1
  ·rw[if_neg k2]
   obtain⟨hls,hup⟩:=hother k2
   exact⟨fun h'=>by rw[hls];exact h.ser h',fun h'=>by rw[hls];exact hup h'⟩
end
theorem P7{us0:List Clear}{qs:List bn}{gr0:Int} : ∀(s l:List (fY × AV)) (b b':ep),Us l b→ON us0 qs gr0 b s=some b'→Us (l++s) b'
 | [],l,b,b',h,he=>by simp[ON]at he;subst he;simpa using h
 | p :: s,l,b,b',h,he=>by
  unfold ON at he
  split at he
  ·rename_i hc
   have:=P7 s (l++[p]) (G3 b p) b' (h.step hc.1 hc.2) he
   simpa using this
  ·cases he
theorem adU(us0:List Clear)(gr0:Int):Us [] (sf us0 gr0):=⟨fun h=>⟨rfl,fun _=>rfl⟩,fun h=>⟨by simp[nB],by simp[nB],fun p hp=>by cases hp⟩⟩
section
variable{us0:List Clear}{qs:List bn}{gr0:Int}{l:List (fY × AV)}{b:ep}(ho:nR us0 qs gr0 l=some b)
include ho
theorem Nn:GM us0 qs gr0=true∧l.length≤2048∧ON us0 qs gr0 (sf us0 gr0) l=some b:=by
 unfold nR at ho
 split at ho
 ·rename_i h;exact⟨h.1,h.2,ho⟩
 ·cases ho
theorem Tn:Us l b:=by
 obtain⟨h1,_,h3⟩:=Nn ho
 have:=P7 l [] _ b (adU us0 gr0) h3
 simpa using this
end
end Go.Proofs.YtmkmimgokagimaaGreat
namespace Go.Proofs.YtmkmimgokagimaaGreat
open Go.Ab
attribute [local simp] bJ bw bt bG bF cL kN bX bx bD cR cQ cr bY bh ct List.take_of_length_le
end Go.Proofs.YtmkmimgokagimaaGreat
namespace Go.Proofs.YtmkmimgokagimaaGreat
open Go.Ab
attribute [local simp] bJ bw bt bG bF cL kN bX bx bD cR cQ cr bY bh ct List.take_of_length_le
attribute [local simp] CW bsO eN
structure MV where
 code:Int
 write:Bool
 r:fY
 x:AV
def Vu:fY:=⟨0,0,MW,0,0,0,0,false⟩
def MV.av(u:MV):AV := .agg [aI u.code,aB u.write,a8 u.r.kind,aI u.r.user,a8 u.r.op.kind,a8 u.r.op.h.lv,aF u.r.op.h.cats,a8 u.r.op.h.num,aI u.r.op.serial,a8 u.r.op.s.f.h.lv,aF u.r.op.s.f.h.cats,a8 u.r.op.s.f.h.num,aI u.r.op.s.f.n,aI u.r.op.s.many,
 a8 u.r.op.a.h.lv,aF u.r.op.a.h.cats,a8 u.r.op.a.h.num,aI u.r.op.a.n,a8 u.r.op.to.lv,aF u.r.op.to.cats,u.x,aI u.r.code,aI u.r.gu,a8 u.r.gv,aF u.r.gc,aB u.r.gok]
def qQ(e:Int):MV:=⟨e,false,Vu,cp⟩
theorem sa(e:Int):(qQ e).av=fj e:=rfl
def aaA(h:nY)(user:Int):fY:=⟨1,user, { MW with h:=h},0,0,0,0,false⟩
def Kd(us:List Clear)(qs:List bn)(gr:Int)(b:ep)(h:nY)(user:Int):MV :=
 if !m8 b qs user h.lv h.cats||((gG (bH h b.ses)).o && !decide ((gG (bH h b.ses)).u=user)) then qQ 230 else if (gG (bH h b.ses)).o then qQ 0 else if (jO us qs gr h.lv h.cats).opens≤(xK b ⟨h.lv,h.cats⟩).opens then qQ 9 else ⟨0,true,aaA h user,cp⟩
def zt(us:List Clear)(qs:List bn)(gr:Int)(l:List (fY × AV))(h:nY)(user:Int):MV × Int:=match nR us qs gr l with
 | none=>(qQ 0,8)
 | some b=>if fL h=true∧0≤user∧user≤255 then (Kd us qs gr b h user,0) else (qQ 0,8)
def opR(o:bz)(c:Int):fY:=⟨2,0,o,c,0,0,0,false⟩
def LG(us:List Clear)(qs:List bn)(gr:Int)(l:List (fY × AV))(b:ep)(h:nY)(o:bz)(x:AV):MV :=
 if !decide (o.h=h)||decide (-1∈o.l) then qQ 8 else if !(gG (bH h b.ses)).o || !m8 b qs (gG (bH h b.ses)).u h.lv h.cats then qQ 230 else if o.serial≤(gG (bH h b.ses)).s then qQ (Mw (qR us qs gr l h o.serial))
 else if (gG (bH h b.ses)).s+1<o.serial then qQ 231 else if (jO us qs gr h.lv h.cats).ops≤(xK b ⟨h.lv,h.cats⟩).ops then qQ 9 else ⟨fc us qs gr b o,true,opR o (fc us qs gr b o),mY x⟩
def pS(us:List Clear)(qs:List bn)(gr:Int)(l:List (fY × AV))(h:nY)(o:bz)(x:AV):MV × Int:=match nR us qs gr l with
 | none=>(qQ 0,8)
 | some b=>if fL h=true∧la o=true then (LG us qs gr l b h o x,0) else (qQ 0,8)
section
variable{xu xq:AV}{us:List Clear}{qs:List bn}{gr:Int}(hu:Sl 3 (ed us) xu)(hq:Sl 5 (ef qs) xq)(hul:us.length<1000000)(hql:qs.length<1000000){l:List (fY × AV)}{x1:AV}(hx:Sl 24 (cW l) x1)(hall : ∀p∈l,oK p)
include hu hq hul hql hx hall
theorem Iz{b:ep}(ho:nR us qs gr l=some b):b.us.length<1000000:=by
 obtain⟨y,H2,hO,hA⟩:=Og (gr:=gr) hu hq hul hql hx hall 0 Fr.nil
 rw[ho]at hA
 obtain⟨rb,rs,ru,rk,xh,xr,rfl,hI,hok⟩:=hA
 exact hok.few
theorem Qn(fb:UInt8)(fq:UInt32)(kb:UInt8)(user:Int):bj env 49 [.agg [xu,xq,aI gr],x1,.agg [a8 fb,aF fq,a8 kb],aI user]=some (.tup [(zt us qs gr l ⟨fb,fq,kb⟩ user).1.av,aI (zt us qs gr l ⟨fb,fq,kb⟩ user).2]):=by
 obtain⟨y,hO,hy⟩:=LN (gr:=gr) hu hq hul hql hx hall fb fq kb
 have r3:=hu.r
 have r4:=hq.r
 have r5:=hx.r
 have t1:=zZ 230
 have t2:=zZ 0
 have t3:=zZ 9
 unfold R1 at hy
 unfold zt
 cases ho:nR us qs gr l with
 | none =>
  rw[ho]at hy
  subst hy
  clear hu hq hx hall ho
  dsimp only
  rw[sa]
  unfold fj Jg at *
  refine aG (fn:=Tryz.f49) (c:=lR) rfl (by kernel_rfl) (by kernel_rfl) (by kernel_rfl) (by kernel_rfl) ?_;refine nj _ _ _ _ _ _ fun g=>?_
  simp[ah,ai,ae,af,ab, *,lS]
 | some b =>
  have hfew:=Iz hu hq hul hql hx hall ho
  rw[ho]at hy
  dsimp only at hy ⊢
  cases hh:fL ⟨fb,fq,kb⟩ with
  | false =>
   rw[hh]at hy
   simp only[Bool.false_eq_true,if_false]at hy
   rw[if_neg (fun h=>by cases h.1)]
   subst hy
   clear hu hq hx hall ho
   dsimp only
   rw[sa]
   unfold fj Jg at *
   refine aG (fn:=Tryz.f49) (c:=lR) rfl (by kernel_rfl) (by kernel_rfl) (by kernel_rfl) (by kernel_rfl) ?_;refine nj _ _ _ _ _ _ fun g=>?_
   simp[ah,ai,ae,af,ab, *,lS]
  | true =>
   rw[hh,if_pos rfl]at hy
   obtain⟨wu,wq,hwu,hwq,rfl⟩:=hy
   have r1:=hwu.r
   have r2:=hwq.r
   by_cases hlo:user<0
   ·rw[if_neg (fun h=>by omega)]
    dsimp only
    rw[sa]
    clear hu hq hx hall ho hwu hwq hh
    unfold fj Jg at *
    refine aG (fn:=Tryz.f49) (c:=lR) rfl (by kernel_rfl) (by kernel_rfl) (by kernel_rfl) (by kernel_rfl) ?_;refine nj _ _ _ _ _ _ fun g=>?_
    simp[ah,ai,ae,af,ab, *,lS]
   ·by_cases hhi:255<user
    ·rw[if_neg (fun h=>by omega)]
     dsimp only
     rw[sa]
     clear hu hq hx hall ho hwu hwq hh
     unfold fj Jg at *
     refine aG (fn:=Tryz.f49) (c:=lR) rfl (by kernel_rfl) (by kernel_rfl) (by kernel_rfl) (by kernel_rfl) ?_;refine nj _ _ _ _ _ _ fun g=>?_
     simp[ah,ai,ae,af,ab, *,lS]
    ·rw[if_pos ⟨rfl,by omega,by omega⟩]
     dsimp only
     have hM:=fun so su ss ua ub uc ud ue qa qb qc qd qe=>Ir hwu hwq hfew hql so su ss b.gr ua ub uc ud ue qa qb qc qd qe user fb fq
     have hF:=fun so su ss ua ub uc ud ue qa qb qc qd qe may c=>Qc hwu hwq so su ss b.gr ua ub uc ud ue qa qb qc qd qe may user fb fq kb c
     have hU:AM b fb fq=⟨fb,fq,(xK b ⟨fb,fq⟩).opens,(xK b ⟨fb,fq⟩).ops,(xK b ⟨fb,fq⟩).cells⟩:=rfl
     have hav:(Kd us qs gr b ⟨fb,fq,kb⟩ user).av=if !m8 b qs user fb fq||((gG (bH ⟨fb,fq,kb⟩ b.ses)).o && !decide ((gG (bH ⟨fb,fq,kb⟩ b.ses)).u=user)) then fj 230 else if (gG (bH ⟨fb,fq,kb⟩ b.ses)).o then fj 0 else if (jO us qs gr fb fq).opens≤(xK b ⟨fb,fq⟩).opens then fj 9 else .agg [aI 0,aB true,a8 1,aI user,a8 0,a8 fb,aF fq,a8 kb,aI 0,a8 0,aF 0,a8 0,aI 0,aI 0,a8 0,aF 0,a8 0,aI 0,a8 0,aF 0,cp,aI 0,aI 0,a8 0,aF 0,aB false]:=by
      unfold Kd
      dsimp only
      split
      ·rfl
      ·split
       ·rfl
       ·split
        ·rfl
        ·rfl
     rw[hav]
     rw[hU]at hO
     unfold m8
     clear hu hq hx hall ho hwu hwq hh hav hU
     generalize gG (bH ⟨fb,fq,kb⟩ b.ses)=s at *
     generalize xK b ⟨fb,fq⟩=u at *
     try dsimp only at *
     generalize jO us qs gr fb fq=q at *
     generalize (decide (nv b.us qs b.gr fb=0)&&nQ b.us user fb fq)=mn at *
     obtain⟨s1,s2,s3⟩:=s
     obtain⟨u1,u2,u3⟩:=u
     obtain⟨q1,q2,q3,q4,q5⟩:=q
     try dsimp only at *
     generalize hyy:(if (!mn||s1 && !decide (s2=user))=true then fj 230 else if s1=true then fj 0 else if q3≤u1 then fj 9 else .agg [aI 0,aB true,a8 1,aI user,a8 0,a8 fb,aF fq,a8 kb,aI 0,a8 0,aF 0,a8 0,aI 0,aI 0,a8 0,aF 0,a8 0,aI 0,a8 0,aF 0,cp,aI 0,aI 0,a8 0,aF 0,aB false])=yy
     have hF':=fun c=>(hF s1 s2 s3 fb fq u1 u2 u3 q1 q2 q3 q4 q5 mn c).trans (by rw[hyy])
     have hyv : ∃x3 x4 x5 x6 x7 x8 x9 x10 x11,yy = .agg [aI x3,aB x4,a8 x5,aI x6,a8 0,a8 x7,aF x8,a8 x9,aI 0,a8 0,aF 0,a8 0,aI 0,aI 0,a8 0,aF 0,a8 0,aI 0,a8 0,aF 0,cp,aI 0,aI 0,a8 x10,aF x11,aB false]:=by
      rw[←hyy]
      unfold fj
      split
      ·exact⟨230,false,0,0,0,0,0,0,0,rfl⟩
      ·split
       ·exact⟨0,false,0,0,0,0,0,0,0,rfl⟩
       ·split
        ·exact⟨9,false,0,0,0,0,0,0,0,rfl⟩
        ·exact⟨0,true,1,user,fb,fq,kb,0,0,rfl⟩
     obtain⟨x3,x4,x5,x6,x7,x8,x9,x10,x11,rfl⟩:=hyv
     clear hF hyy
     unfold Jg at hO
     refine aG (fn:=Tryz.f49) (c:=lR) rfl (by kernel_rfl) (by kernel_rfl) (by kernel_rfl) (by kernel_rfl) ?_;refine nj _ _ _ _ _ _ fun g=>?_
     simp[ah,ai,ae,af,ab, *,lS]
end
end Go.Proofs.YtmkmimgokagimaaGreat
