/-
  What is not at or below a label counts for nothing there: logs. No statement of a seat is proved here.
-/
import Derived.Test.YtmkmimgokagimaaGreatMLeLow0
import Derived.Test.YtmkmimgokagimaaGreatMLeAdm3
import Derived.Test.YtmkmimgokagimaaGreatLeAdm0
set_option linter.unusedVariables false
set_option linter.unusedSimpArgs false
set_option linter.unusedSectionVars false
set_option linter.unnecessarySimpa false
set_option maxRecDepth 100000
namespace Go.Proofs.YtmkmimgokagimaaGreat
open Go.Ab
structure Ea (v:jS) (b b':ep):Prop where
 us:b'.us=b.us
 gr:b'.gr=b.gr
 ses : ∀h:nY,nd ⟨h.lv,h.cats⟩ v=true→gG (bH h b'.ses)=gG (bH h b.ses)
 use : ∀w:jS,nd w v=true→xK b' w=xK b w
 dE:opsOf b'.dE=(opsOf b.dE).filter (pH v)
 is:(iK [] [] b.dE).isSome=true
section
variable{v:jS}{b b':ep}(h:Ea v b b')(hn:b.dE.length≤100){us:List Clear}{qs:List bn}{gr:Int}
include h hn
theorem C4{o:bz}(ho:pH v o=true):fc us qs gr b' o=fc us qs gr b o:=by
 have h1:=(K2 h.dE hn h.is ho).1
 have h2:=h.use ⟨o.h.lv,o.h.cats⟩ ho
 unfold xK at h2
 unfold fc
 rw[h1,h2]
theorem rR(user:Int)(v1:UInt8)(v2:UInt32):m8 b' qs user v1 v2=m8 b qs user v1 v2:=by
 unfold m8
 rw[h.us,h.gr]
theorem Pa{p p':fY × AV}(e:p'.1=p.1)(ho:gA v p=true)(his:n8 p.1=true):rY us qs gr b' p'.1=rY us qs gr b p.1:=by
 rw[e]
 unfold rY
 unfold gA at ho
 by_cases k1:p.1.kind=1
 ·rw[if_pos k1,if_pos k1]
  have ho:nd ⟨p.1.op.h.lv,p.1.op.h.cats⟩ v=true:=by
   rw[k1]at ho;simpa using ho
  have hs:kP b' p.1.op=kP b p.1.op:=h.ses _ ho
  have hu:jw b' p.1.op=jw b p.1.op:=h.use _ ho
  unfold FG
  rw[hs,hu,rR h hn]
 ·rw[if_neg k1,if_neg k1]
  by_cases k2:p.1.kind=2
  ·rw[if_pos k2,if_pos k2]
   have ho:nd ⟨p.1.op.h.lv,p.1.op.h.cats⟩ v=true:=by
    rw[k2]at ho;simpa using ho
   have hs:kP b' p.1.op=kP b p.1.op:=h.ses _ ho
   have hu:jw b' p.1.op=jw b p.1.op:=h.use _ ho
   unfold Bx
   rw[hs,hu,rR h hn,C4 h hn ho]
  ·rw[if_neg k2,if_neg k2]
   unfold FF
   rw[h.us,h.gr]
end
theorem Nz{us:List Clear}{qs:List bn}{gr:Int}{b:ep}{r:fY}{y:AV}(hi:(iK [] [] b.dE).isSome=true)(k2:r.kind=2)(hf:rY us qs gr b r=true):(iK [] [] (rZ b r.op r.code y).dE).isSome=true:=by
 show(iK [] [] (if r.code=0 then b.dE++[(r.op,y)] else b.dE)).isSome=true
 split
 ·rename_i hc
  unfold rY at hf
  rw[if_neg (by rw[k2];decide),if_pos k2]at hf
  simp only[Bx,Bool.and_eq_true,decide_eq_true_eq]at hf
  have hv:=hf.2.2.2.2
  rw[hc]at hv
  refine IZ (p:=(r.op,y)) ?_
  unfold fc at hv
  split at hv
  ·rename_i h1;exact absurd hv.symm h1
  ·rename_i h1
   exact Decidable.not_not.1 h1
 ·exact hi
theorem yP(b:ep)(h h':nY)(s:uY):gG (bH h' (fO h s.av b.ses))=if h'=h then s else gG (bH h' b.ses):=by
 split
 ·rename_i e;subst e;rw[pY,Eg]
 ·rename_i e;rw[od e]
theorem ry(v w:jS)(u:xB)(l:List (jS × AV)):nu (bH w (fO v u.av l))=if w=v then u else nu (bH w l):=by
 split
 ·rename_i e;subst e;rw[pY,MZ]
 ·rename_i e;rw[od e]
section
variable{v:jS}{b b':ep}(h:Ea v b b'){us:List Clear}{qs:List bn}{gr:Int}
include h
theorem Ea.low{p p':fY × AV}(e:p'.1=p.1)(ho:gA v p=true)(hf:rY us qs gr b p.1=true):Ea v (G3 b p) (G3 b' p'):=by
 unfold G3
 rw[e]
 unfold gA at ho
 by_cases k1:p.1.kind=1
 ·rw[if_pos k1,if_pos k1]
  have ho:nd ⟨p.1.op.h.lv,p.1.op.h.cats⟩ v=true:=by
   rw[k1]at ho;simpa using ho
  have hu:jw b' p.1.op=jw b p.1.op:=h.use _ ho
  refine⟨h.us,h.gr,fun k hk=>?_,fun w hw=>?_,h.dE,h.is⟩
  ·show gG (bH k (fO p.1.op.h (uY.av ⟨true,p.1.user,0⟩) b'.ses))=gG (bH k (fO p.1.op.h (uY.av ⟨true,p.1.user,0⟩) b.ses))
   rw[yP,yP,h.ses k hk]
  ·show nu (bH w (fO ⟨p.1.op.h.lv,p.1.op.h.cats⟩ (xB.av { jw b' p.1.op with opens:=IntKind.i64.wrap ((jw b' p.1.op).opens+1)}) b'.used))=nu (bH w (fO ⟨p.1.op.h.lv,p.1.op.h.cats⟩ (xB.av { jw b p.1.op with opens:=IntKind.i64.wrap ((jw b p.1.op).opens+1)}) b.used))
   have:=h.use w hw
   unfold xK at this
   rw[ry,ry,this,hu]
 ·rw[if_neg k1,if_neg k1]
  by_cases k2:p.1.kind=2
  ·rw[if_pos k2,if_pos k2]
   have ho:nd ⟨p.1.op.h.lv,p.1.op.h.cats⟩ v=true:=by
    rw[k2]at ho;simpa using ho
   have hu:jw b' p.1.op=jw b p.1.op:=h.use _ ho
   have hs:kP b' p.1.op=kP b p.1.op:=h.ses _ ho
   have hd:yf b' p.1.op p.1.code=yf b p.1.op p.1.code:=by unfold yf;rw[hu]
   refine⟨h.us,h.gr,fun k hk=>?_,fun w hw=>?_,?_,Nz h.is k2 hf⟩
   ·show gG (bH k (fO p.1.op.h (uY.av { kP b' p.1.op with s:=IntKind.i64.wrap ((kP b' p.1.op).s+1)}) b'.ses))=gG (bH k (fO p.1.op.h (uY.av { kP b p.1.op with s:=IntKind.i64.wrap ((kP b p.1.op).s+1)}) b.ses))
    rw[yP,yP,h.ses k hk,hs]
   ·show nu (bH w (fO ⟨p.1.op.h.lv,p.1.op.h.cats⟩ (xB.av (yf b' p.1.op p.1.code)) b'.used))=nu (bH w (fO ⟨p.1.op.h.lv,p.1.op.h.cats⟩ (xB.av (yf b p.1.op p.1.code)) b.used))
    have:=h.use w hw
    unfold xK at this
    rw[ry,ry,this,hd]
   ·show opsOf (if p.1.code=0 then b'.dE++[(p.1.op,mY p'.2)] else b'.dE)=(opsOf (if p.1.code=0 then b.dE++[(p.1.op,mY p.2)] else b.dE)).filter (pH v)
    split
    ·rw[kZ,kZ,List.filter_append,h.dE]
     have:pH v p.1.op=true:=ho
     simp[this]
    ·exact h.dE
  ·rw[if_neg k2,if_neg k2]
   refine⟨?_,?_,h.ses,h.use,h.dE,h.is⟩
   ·show b'.us.set _ _=b.us.set _ _
    rw[h.us]
   ·show IntKind.i64.wrap (b'.gr - 1)=IntKind.i64.wrap (b.gr - 1)
    rw[h.gr]
theorem Ea.high{p:fY × AV}(ho : ¬gA v p=true)(his:n8 p.1=true)(hf:rY us qs gr b p.1=true):Ea v (G3 b p) b':=by
 unfold gA at ho
 simp only[Bool.or_eq_true,decide_eq_true_eq,not_or]at ho
 obtain⟨k3,hl⟩:=ho
 have hne : ∀h:nY,nd ⟨h.lv,h.cats⟩ v=true→h≠p.1.op.h:=fun h hk e=>hl (by rw[←e];exact hk)
 have hne2 : ∀w:jS,nd w v=true→w≠⟨p.1.op.h.lv,p.1.op.h.cats⟩:=fun w hk e=>hl (by rw[←e];exact hk)
 unfold G3
 by_cases k1:p.1.kind=1
 ·rw[if_pos k1]
  refine⟨h.us,h.gr,fun k hk=>?_,fun w hw=>?_,h.dE,h.is⟩
  ·show _=gG (bH k (fO p.1.op.h (uY.av ⟨true,p.1.user,0⟩) b.ses))
   rw[yP,if_neg (hne k hk)]
   exact h.ses k hk
  ·show _=nu (bH w (fO ⟨p.1.op.h.lv,p.1.op.h.cats⟩ (xB.av { jw b p.1.op with opens:=IntKind.i64.wrap ((jw b p.1.op).opens+1)}) b.used))
   rw[ry,if_neg (hne2 w hw)]
   exact h.use w hw
 ·rw[if_neg k1]
  by_cases k2:p.1.kind=2
  ·rw[if_pos k2]
   refine⟨h.us,h.gr,fun k hk=>?_,fun w hw=>?_,?_,Nz h.is k2 hf⟩
   ·show _=gG (bH k (fO p.1.op.h (uY.av { kP b p.1.op with s:=IntKind.i64.wrap ((kP b p.1.op).s+1)}) b.ses))
    rw[yP,if_neg (hne k hk)]
    exact h.ses k hk
   ·show _=nu (bH w (fO ⟨p.1.op.h.lv,p.1.op.h.cats⟩ (xB.av (yf b p.1.op p.1.code)) b.used))
    rw[ry,if_neg (hne2 w hw)]
    exact h.use w hw
   ·show _=(opsOf (if p.1.code=0 then b.dE++[(p.1.op,mY p.2)] else b.dE)).filter (pH v)
    split
    ·rw[kZ,List.filter_append,h.dE]
     have : ¬pH v p.1.op=true:=hl
     simp[this]
    ·exact h.dE
  ·exfalso
   unfold n8 at his
   rw[if_neg k1,if_neg k2,if_neg k3]at his
   cases his
end
theorem Pd(b:ep)(p:fY × AV):(G3 b p).dE.length≤b.dE.length+1:=by
 unfold G3
 split
 ·exact Nat.le_succ _
 ·split
  ·show(if p.1.code=0 then b.dE++[(p.1.op,mY p.2)] else b.dE).length≤_
   split
   ·simp
   ·omega
  ·exact Nat.le_succ _
theorem Iy{v:jS}{us:List Clear}{qs:List bn}{gr:Int} : ∀ {l l':List (fY × AV)} {b b' B:ep},Ea v b b'→AY l'=AY (l.filter (gA v))→b.dE.length+l.length≤100→ON us qs gr b l=some B →∃B',ON us qs gr b' l'=some B'∧Ea v B B'∧B.dE.length≤b.dE.length+l.length
 | [],l',b,b',B,h,hl,hn,he=>by
  have e:l'=[]:=by
   have:=congrArg List.length hl
   simpa [AY] using this
  subst e
  simp only[ON,Option.some.injEq]at he
  subst he
  exact⟨b',rfl,h,by simp⟩
 | p :: l,l',b,b',B,h,hl,hn,he=>by
  unfold ON at he
  split at he
  ·rename_i hc
   simp only[List.length_cons]at hn
   have hh:=Pd b p
   rw[List.filter_cons]at hl
   by_cases ho:gA v p=true
   ·rw[if_pos ho]at hl
    cases l' with
    | nil=>simp[AY]at hl
    | cons p' l' =>
     have hl1:p'.1 :: AY l'=p.1 :: AY (l.filter (gA v)):=hl
     injection hl1 with e1 e2
     have hf':=Pa (us:=us) (qs:=qs) (gr:=gr) h (by omega) e1 ho hc.1
     obtain⟨B',g1,g2,g3⟩:=Iy (h.low (us:=us) (qs:=qs) (gr:=gr) e1 ho hc.2) e2 (by omega) he
     refine⟨B',?_,g2,by simp;omega⟩
     unfold ON
     rw[if_pos ⟨by rw[e1];exact hc.1,by rw[hf'];exact hc.2⟩]
     exact g1
   ·rw[if_neg ho]at hl
    obtain⟨B',g1,g2,g3⟩:=Iy (h.high (us:=us) (qs:=qs) (gr:=gr) ho hc.1 hc.2) hl (by omega) he
    exact⟨B',g1,g2,by simp;omega⟩
  ·cases he
theorem To{v:jS}{us:List Clear}{qs:List bn}{gr:Int}{l l':List (fY × AV)}{b:ep}(ho:nR us qs gr l=some b)(hl:AY l'=AY (l.filter (gA v)))(hn:l.length≤100) : ∃b',nR us qs gr l'=some b'∧Ea v b b'∧b.dE.length≤100:=by
 obtain⟨h1,h2,h3⟩:=Nn ho
 have h0:Ea v (sf us gr) (sf us gr):=⟨rfl,rfl,fun _ _=>rfl,fun _ _=>rfl,rfl,rfl⟩
 obtain⟨b',g1,g2,g3⟩:=Iy h0 hl (by simpa [sf] using hn) h3
 have hlen:l'.length≤2048:=by
  have e:=congrArg List.length hl
  have e2:=List.length_filter_le (gA v) l
  simp at e
  omega
 refine⟨b',?_,g2,?_⟩
 ·unfold nR
  rw[if_pos ⟨h1,hlen⟩]
  exact g1
 ·have e0:(sf us gr).dE.length=0:=rfl
  omega
end Go.Proofs.YtmkmimgokagimaaGreat
set_option maxHeartbeats 4000000
namespace Go.Proofs.YtmkmimgokagimaaGreat
open Go.Ab
attribute [local simp] bJ bw bt bG bF cL kN bX bx bD cR cQ cr bY bh ct List.take_of_length_le
theorem S8(l:List (fY × AV)):AY (l.map xL)=AY l:=by simp[AY,xL]
theorem Nd(v:jS)(l:List (fY × AV)):AY ((l.map xL).filter (gA v))=AY (l.filter (gA v)):=by
 induction l with
 | nil=>rfl
 | cons p l ih =>
  rw[List.map_cons,List.filter_cons,List.filter_cons]
  have:gA v (xL p)=gA v p:=rfl
  rw[this]
  split
  ·show p.1 :: AY _=p.1 :: AY _
   rw[ih]
  ·exact ih
theorem Lb(h:nY)(sr:Int) : ∀ {l m:List (fY × AV)},AY l=AY m→mE h sr l=mE h sr m
 | [],[],_=>rfl
 | [],q :: m,e=>by simp[AY]at e
 | p :: l,[],e=>by simp[AY]at e
 | p :: l,q :: m,e=>by
  have e':p.1 :: AY l=q.1 :: AY m:=e
  injection e' with e1 e2
  have ih:=Lb h sr e2
  unfold mE at ih ⊢
  rw[List.find?_cons,List.find?_cons]
  have:DW h sr p=DW h sr q:=by unfold DW;rw[e1]
  rw[this]
  cases DW h sr q with
  | true=>simp only[e1]
  | false=>exact ih
theorem RI{v:jS}{h:nY}(hv:nd ⟨h.lv,h.cats⟩ v=true)(sr:Int)(l:List (fY × AV)):mE h sr (l.filter (gA v))=mE h sr l:=by
 unfold mE
 have:(l.filter (gA v)).find? (DW h sr)=l.find? (DW h sr):=by
  induction l with
  | nil=>rfl
  | cons p l ih =>
   rw[List.filter_cons,List.find?_cons]
   cases hi:DW h sr p with
   | true =>
    have ho:gA v p=true:=by
     unfold DW at hi
     simp only[Bool.and_eq_true,decide_eq_true_eq]at hi
     unfold gA
     rw[hi.2.1,hv,Bool.or_true]
    rw[if_pos ho,List.find?_cons,hi]
   | false =>
    split
    ·rw[List.find?_cons,hi];exact ih
    ·exact ih
 rw[this]
section
variable{us:List Clear}{qs:List bn}{gr:Int}{l l':List (fY × AV)}{b b':ep}{v:jS}(ho:nR us qs gr l=some b)(ho':nR us qs gr l'=some b')(h:Ea v b b')(hl:AY l'=AY (l.filter (gA v)))(hn:b.dE.length≤100)
include ho ho' h hl hn
theorem Pk{k:nY}(hk:nd ⟨k.lv,k.cats⟩ v=true)(sr:Int):qR us qs gr l' k sr=qR us qs gr l k sr:=by
 unfold qR
 rw[ho,ho']
 dsimp only
 rw[Lb k sr (show AY (l'.map xL)=AY ((l.map xL).filter (gA v)) by rw[S8,hl,Nd]),RI hk]
end
end Go.Proofs.YtmkmimgokagimaaGreat
namespace Go.Proofs.YtmkmimgokagimaaGreat
open Go.Ab
attribute [local simp] bJ bw bt bG bF cL kN bX bx bD cR cQ cr bY bh ct List.take_of_length_le
def Mb(us:List Clear)(qs:List bn)(gr:Int)(l:List (fY × AV))(h:nY):Bool × Int:=match nR us qs gr l with
 | none=>(false,8)
 | some b=>if fL h=true then ((gG (bH h b.ses)).o&&m8 b qs (gG (bH h b.ses)).u h.lv h.cats,0) else (false,8)
section
variable{xu xq:AV}{us:List Clear}{qs:List bn}{gr:Int}(hu:Sl 3 (ed us) xu)(hq:Sl 5 (ef qs) xq)(hul:us.length<1000000)(hql:qs.length<1000000){l:List (fY × AV)}{x1:AV}(hx:Sl 24 (cW l) x1)(hall : ∀p∈l,oK p)
include hu hq hul hql hx hall
theorem QA(fb:UInt8)(fq:UInt32)(kb:UInt8):bj env 59 [.agg [xu,xq,aI gr],x1,.agg [a8 fb,aF fq,a8 kb]]=some (.tup [aB (Mb us qs gr l ⟨fb,fq,kb⟩).1,aI (Mb us qs gr l ⟨fb,fq,kb⟩).2]):=by
 obtain⟨y,hO,hy⟩:=LN (gr:=gr) hu hq hul hql hx hall fb fq kb
 have hC:=uL fb fq kb
 have r3:=hu.r
 have r4:=hq.r
 have r5:=hx.r
 unfold R1 at hy
 unfold Mb
 cases ho:nR us qs gr l with
 | none =>
  rw[ho]at hy
  subst hy
  clear hu hq hx hall ho
  dsimp only
  unfold Jg at *
  refine aG (fn:=Tryz.f59) (c:=mU) rfl (by kernel_rfl) (by kernel_rfl) (by kernel_rfl) (by kernel_rfl) ?_;refine oV _ _ _ _ _ fun g=>?_
  simp[ah,ai,ae,af,ab, *,mW]
 | some b =>
  have hfew:=Iz hu hq hul hql hx hall ho
  rw[ho]at hy
  dsimp only at hy ⊢
  cases hh:fL ⟨fb,fq,kb⟩ with
  | false =>
   rw[hh]at hy
   simp only[Bool.false_eq_true,if_false]at hy
   subst hy
   clear hu hq hx hall ho
   unfold Jg at *
   refine aG (fn:=Tryz.f59) (c:=mU) rfl (by kernel_rfl) (by kernel_rfl) (by kernel_rfl) (by kernel_rfl) ?_;refine oV _ _ _ _ _ fun g=>?_
   simp[ah,ai,ae,af,ab, *,mW]
  | true =>
   rw[hh,if_pos rfl]at hy
   obtain⟨wu,wq,hwu,hwq,rfl⟩:=hy
   have r1:=hwu.r
   have r2:=hwq.r
   rw[if_pos rfl]
   rw[hh]at hC
   dsimp only
   have hM:=fun so su ss ua ub uc ud ue qa qb qc qd qe user=>Ir hwu hwq hfew hql so su ss b.gr ua ub uc ud ue qa qb qc qd qe user fb fq
   unfold m8
   clear hu hq hx hall ho hwu hwq hh
   generalize gG (bH ⟨fb,fq,kb⟩ b.ses)=s at *
   generalize AM b fb fq=u at *
   try dsimp only at *
   generalize jO us qs gr fb fq=q at *
   obtain⟨s1,s2,s3⟩:=s
   obtain⟨u1,u2,u3,u4,u5⟩:=u
   obtain⟨q1,q2,q3,q4,q5⟩:=q
   try dsimp only at *
   have hM':=hM s1 s2 s3 u1 u2 u3 u4 u5 q1 q2 q3 q4 q5 s2
   clear hM
   generalize (decide (nv b.us qs b.gr fb=0)&&nQ b.us s2 fb fq)=mn at *
   unfold Jg at hO
   simp only at hO
   cases s1 with
   | false =>
    refine aG (fn:=Tryz.f59) (c:=mU) rfl (by kernel_rfl) (by kernel_rfl) (by kernel_rfl) (by kernel_rfl) ?_;refine oV _ _ _ _ _ fun g=>?_
    simp[ah,ai,ae,af,ab, *,mW,bad]
   | true =>
    cases mn with
    | false =>
     refine aG (fn:=Tryz.f59) (c:=mU) rfl (by kernel_rfl) (by kernel_rfl) (by kernel_rfl) (by kernel_rfl) ?_;refine oV _ _ _ _ _ fun g=>?_
     simp[ah,ai,ae,af,ab, *,mW,bad]
    | true =>
     refine aG (fn:=Tryz.f59) (c:=mU) rfl (by kernel_rfl) (by kernel_rfl) (by kernel_rfl) (by kernel_rfl) ?_;refine oV _ _ _ _ _ fun g=>?_
     simp[ah,ai,ae,af,ab, *,mW,bad]
end
section
variable{us:List Clear}{qs:List bn}{gr:Int}{l l':List (fY × AV)}{b b':ep}{v:jS}(ho:nR us qs gr l=some b)(ho':nR us qs gr l'=some b')(h:Ea v b b')(hl:AY l'=AY (l.filter (gA v)))(hn:b.dE.length≤100){k:nY}(hk:nd ⟨k.lv,k.cats⟩ v=true)
include ho ho' h hl hn hk
theorem Q8:Mb us qs gr l' k=Mb us qs gr l k:=by
 unfold Mb
 rw[ho,ho']
 dsimp only
 rw[h.ses k hk,rR h hn]
theorem OH(user:Int):zt us qs gr l' k user=zt us qs gr l k user:=by
 have hu:=h.use ⟨k.lv,k.cats⟩ hk
 unfold zt
 rw[ho,ho']
 dsimp only
 unfold Kd
 rw[h.ses k hk,rR h hn,hu]
theorem P0(o:bz)(x:AV):pS us qs gr l' k o x=pS us qs gr l k o x:=by
 have hu:=h.use ⟨k.lv,k.cats⟩ hk
 unfold pS
 rw[ho,ho']
 dsimp only
 unfold LG
 rw[h.ses k hk,rR h hn,hu,Pk ho ho' h hl hn hk]
 by_cases e:o.h=k
 ·have hv:pH v o=true:=by unfold pH Lt;rw[e];exact hk
  rw[C4 h hn hv]
 ·have e1:(!decide (o.h=k)||decide (-1∈o.l))=true:=by simp[e]
  rw[if_pos e1,if_pos e1]
end
theorem OM{o:bz}{al:List Int}(h1:la o=true)(h2:la { o with l:=al}=true):HB { o with l:=al}=HB o:=by
 unfold HB
 rw[h1,h2,if_pos rfl,if_pos rfl]
 by_cases k:o.kind=1
 ·have hr : ∀o:bz,la o=true→o.kind=1→DI ⟨o.s,o.a,o.l⟩=(decide (o.a=Ar)||(G0 o.a&&decide (o.a.n<o.s.f.n))):=by
   intro o h k
   unfold la Kl at h
   rw[if_pos k]at h
   simp only[Bool.and_eq_true,Kz]at h
   unfold DI
   rw[h.2.2.2.1,h.2.2.2.2.2.2.2.1,h.2.2.2.2.2.2.2.2]
   simp
  have e:=(hr _ h2 k).trans (hr o h1 k).symm
  rw[show(DI ⟨({ o with l:=al}:bz).s,({ o with l:=al}:bz).a,({ o with l:=al}:bz).l⟩)=DI ⟨o.s,o.a,o.l⟩ from e]
 ·rw[if_neg (fun h=>k h.1),if_neg (fun h=>k h.1)]
theorem MC(ops:List (bz × AV))(ents:List (eJ × AV)){o:bz}{al:List Int}(h1:la o=true)(h2:la { o with l:=al}=true):sW ops ents { o with l:=al}=sW ops ents o:=by
 have hi:e9 ents { o with l:=al}=e9 ents o:=by
  unfold e9
  rw[OM h1 h2]
  rfl
 have hk:rT ops ents { o with l:=al}=rT ops ents o:=by
  unfold rT
  rw[hi]
  rfl
 unfold sW
 rw[hk]
theorem Gr(us:List Clear)(qs:List bn)(gr:Int)(b:ep){o:bz}{al:List Int}(h1:la o=true)(h2:la { o with l:=al}=true):fc us qs gr b { o with l:=al}=fc us qs gr b o:=by
 have hd:kz b.dE { o with l:=al}=kz b.dE o:=by
  unfold kz
  split
  ·rfl
  ·rw[h1,h2,if_pos rfl,if_pos rfl,MC _ _ h1 h2]
 unfold fc
 rw[hd]
theorem NZ{us:List Clear}{qs:List bn}{gr:Int}{l:List (fY × AV)}{h:nY}{o:bz}{x x':AV}{al:List Int}(hb:(-1∈al)↔(-1∈o.l))(he:(pS us qs gr l h { o with l:=al} x').2=(pS us qs gr l h o x).2) :
 (pS us qs gr l h { o with l:=al} x').1.code=(pS us qs gr l h o x).1.code∧(pS us qs gr l h { o with l:=al} x').1.write=(pS us qs gr l h o x).1.write:=by
 unfold pS at *
 cases ho:nR us qs gr l with
 | none=>exact⟨rfl,rfl⟩
 | some b =>
  rw[ho]at he
  dsimp only at he ⊢
  by_cases c1:fL h=true∧la o=true
  ·by_cases c2:fL h=true∧la { o with l:=al}=true
   ·rw[if_pos c1,if_pos c2]
    dsimp only
    have hv:=Gr us qs gr b c1.2 c2.2
    have hd:decide (-1∈al)=decide (-1∈o.l):=decide_eq_decide.2 hb
    unfold LG
    rw[hv]
    dsimp only
    rw[hd]
    repeat' split
    all_goals exact⟨rfl,rfl⟩
   ·rw[if_pos c1,if_neg c2]at he
    cases he
  ·by_cases c2:fL h=true∧la { o with l:=al}=true
   ·rw[if_neg c1,if_pos c2]at he
    cases he
   ·rw[if_neg c1,if_neg c2]
    exact⟨rfl,rfl⟩
end Go.Proofs.YtmkmimgokagimaaGreat
