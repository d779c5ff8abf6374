/-
  What is granted to a handle that asks: what is answered to an operation. No statement of a seat is proved here.
-/
import Derived.Test.YtmkmimgokagimaaGreatMLeAdm3
import Derived.Test.YtmkmimgokagimaaGreatMLeSame
set_option linter.unusedVariables false
set_option linter.unusedSimpArgs false
set_option linter.unusedSectionVars false
set_option linter.unnecessarySimpa false
set_option maxRecDepth 100000
namespace Go.Proofs.YtmkmimgokagimaaGreat
open Go.Ab
attribute [local simp] bJ bw bt bG bF cL kN bX bx bD cR cQ cr bY bh ct List.take_of_length_le
attribute [local simp] CW bsO eN
section
variable{xu xq:AV}{us:List Clear}{qs:List bn}{gr:Int}(hu:Sl 3 (ed us) xu)(hq:Sl 5 (ef qs) xq)(hul:us.length<1000000)(hql:qs.length<1000000){l:List (fY × AV)}{x1:AV}(hx:Sl 24 (cW l) x1)(hall : ∀p∈l,oK p)
include hu hq hul hql hx hall
theorem VH{b:ep}(ho:nR us qs gr l=some b)(h:nY):0≤(gG (bH h b.ses)).s∧(gG (bH h b.ses)).s<16777216:=by
 have hI:=Tn ho
 rw[(hI.ser h).1]
 exact⟨(hI.up h).1,(hI.up h).2.1⟩
theorem ET(fb:UInt8)(fq:UInt32)(kb:UInt8)(ba:UInt8)(aO:UInt8)(aN:UInt32)(aT:UInt8)(aV:Int)(aX:UInt8)(aW:UInt32)(aY:UInt8)(aZ:Int)(an:Int)(ay:UInt8)(ax:UInt32)(aw:UInt8)(au:Int)(aA:UInt8)(az:UInt32){x:AV}{al:List Int}(hax:Sl 1 (rows al) x)(hal:al.length<1000000):bj env 52 [.agg [xu,xq,aI gr],x1,.agg [a8 fb,aF fq,a8 kb],.agg [a8 ba,a8 aO,aF aN,a8 aT,aI aV,a8 aX,aF aW,a8 aY,aI aZ,aI an,a8 ay,aF ax,a8 aw,aI au,a8 aA,aF az,x]]=some (.tup [(pS us qs gr l ⟨fb,fq,kb⟩ (⟨ba,⟨aO,aN,aT⟩,aV,⟨⟨⟨aX,aW,aY⟩,aZ⟩,an⟩,⟨⟨ay,ax,aw⟩,au⟩,⟨aA,az⟩,al⟩:bz) x).1.av,aI (pS us qs gr l ⟨fb,fq,kb⟩ (⟨ba,⟨aO,aN,aT⟩,aV,⟨⟨⟨aX,aW,aY⟩,aZ⟩,an⟩,⟨⟨ay,ax,aw⟩,au⟩,⟨aA,az⟩,al⟩:bz) x).2]):=by
 obtain⟨y,hO,hy⟩:=LN (gr:=gr) hu hq hul hql hx hall fb fq kb
 have hC:=ko ba aO aN aT aV aX aW aY aZ an ay ax aw au aA az hax (by omega)
 have r3:=hu.r
 have r4:=hq.r
 have r5:=hx.r
 have r6:=hax.r
 have t1:=zZ 8
 have t2:=zZ 230
 have t3:=zZ 231
 have t4:=zZ 9
 unfold R1 at hy
 cases ho:nR us qs gr l with
 | none =>
  have hs:pS us qs gr l ⟨fb,fq,kb⟩ (⟨ba,⟨aO,aN,aT⟩,aV,⟨⟨⟨aX,aW,aY⟩,aZ⟩,an⟩,⟨⟨ay,ax,aw⟩,au⟩,⟨aA,az⟩,al⟩:bz) x=(qQ 0,8):=by unfold pS;rw[ho]
  rw[hs]
  rw[ho]at hy
  subst hy
  clear hu hq hx hall ho hax hs
  dsimp only
  rw[sa]
  unfold fj Jg at *
  refine aG (fn:=Tryz.f52) (c:=jq) rfl (by kernel_rfl) (by kernel_rfl) (by kernel_rfl) (by kernel_rfl) ?_;refine lF _ _ _ _ _ _ fun g=>?_
  simp[ah,ai,ae,af,ab, *,jr]
 | some b =>
  have hfew:=Iz hu hq hul hql hx hall ho
  have hso:=VH hu hq hul hql hx hall ho ⟨fb,fq,kb⟩
  rw[ho]at hy
  dsimp only at hy
  cases hh:fL ⟨fb,fq,kb⟩ with
  | false =>
   have hs:pS us qs gr l ⟨fb,fq,kb⟩ (⟨ba,⟨aO,aN,aT⟩,aV,⟨⟨⟨aX,aW,aY⟩,aZ⟩,an⟩,⟨⟨ay,ax,aw⟩,au⟩,⟨aA,az⟩,al⟩:bz) x=(qQ 0,8):=by unfold pS;rw[ho];dsimp only;rw[if_neg (fun h=>by rw[hh]at h;cases h.1)]
   rw[hs]
   rw[hh]at hy
   simp only[Bool.false_eq_true,if_false]at hy
   subst hy
   clear hu hq hx hall ho hax hs
   dsimp only
   rw[sa]
   unfold fj Jg at *
   refine aG (fn:=Tryz.f52) (c:=jq) rfl (by kernel_rfl) (by kernel_rfl) (by kernel_rfl) (by kernel_rfl) ?_;refine lF _ _ _ _ _ _ fun g=>?_
   simp[ah,ai,ae,af,ab, *,jr]
  | true =>
   rw[hh,if_pos rfl]at hy
   obtain⟨wu,wq,hwu,hwq,rfl⟩:=hy
   have r1:=hwu.r
   have r2:=hwq.r
   cases hop:la (⟨ba,⟨aO,aN,aT⟩,aV,⟨⟨⟨aX,aW,aY⟩,aZ⟩,an⟩,⟨⟨ay,ax,aw⟩,au⟩,⟨aA,az⟩,al⟩:bz) with
   | false =>
    have hs:pS us qs gr l ⟨fb,fq,kb⟩ (⟨ba,⟨aO,aN,aT⟩,aV,⟨⟨⟨aX,aW,aY⟩,aZ⟩,an⟩,⟨⟨ay,ax,aw⟩,au⟩,⟨aA,az⟩,al⟩:bz) x=(qQ 0,8):=by unfold pS;rw[ho];dsimp only;rw[if_neg (fun h=>by rw[hop]at h;cases h.2)]
    rw[hs]
    rw[hop]at hC
    dsimp only
    rw[sa]
    clear hu hq hx hall ho hwu hwq hh hax hs hop
    unfold fj Jg bad at *
    refine aG (fn:=Tryz.f52) (c:=jq) rfl (by kernel_rfl) (by kernel_rfl) (by kernel_rfl) (by kernel_rfl) ?_;refine lF _ _ _ _ _ _ fun g=>?_
    simp[ah,ai,ae,af,ab, *,jr]
   | true =>
    have hs:pS us qs gr l ⟨fb,fq,kb⟩ (⟨ba,⟨aO,aN,aT⟩,aV,⟨⟨⟨aX,aW,aY⟩,aZ⟩,an⟩,⟨⟨ay,ax,aw⟩,au⟩,⟨aA,az⟩,al⟩:bz) x=(LG us qs gr l b ⟨fb,fq,kb⟩ (⟨ba,⟨aO,aN,aT⟩,aV,⟨⟨⟨aX,aW,aY⟩,aZ⟩,an⟩,⟨⟨ay,ax,aw⟩,au⟩,⟨aA,az⟩,al⟩:bz) x,0):=by unfold pS;rw[ho];dsimp only;rw[if_pos ⟨hh,hop⟩]
    rw[hs]
    rw[hop]at hC
    dsimp only
    have hv:Ib us qs gr l (⟨ba,⟨aO,aN,aT⟩,aV,⟨⟨⟨aX,aW,aY⟩,aZ⟩,an⟩,⟨⟨ay,ax,aw⟩,au⟩,⟨aA,az⟩,al⟩:bz) = .tup [aI (fc us qs gr b (⟨ba,⟨aO,aN,aT⟩,aV,⟨⟨⟨aX,aW,aY⟩,aZ⟩,an⟩,⟨⟨ay,ax,aw⟩,au⟩,⟨aA,az⟩,al⟩:bz)),aI 0]:=by unfold Ib;rw[ho];dsimp only;rw[if_pos hop]
    have hF:=fun so su ss ua ub uc ud ue qa qb qc qd qe (hw:IntKind.i64.wrap (ss+1)=ss+1) c=>Qb (gr:=gr) hu hq hul hql hx hall hwu hwq hfew so su ss b.gr ua ub uc ud ue qa qb qc qd qe hw fb fq kb ba aO aN aT aV aX aW aY aZ an ay ax aw au aA az hax hal hv c
    have hU:AM b fb fq=⟨fb,fq,(xK b ⟨fb,fq⟩).opens,(xK b ⟨fb,fq⟩).ops,(xK b ⟨fb,fq⟩).cells⟩:=rfl
    rw[hU]at hO
    have hav:(LG us qs gr l b ⟨fb,fq,kb⟩ (⟨ba,⟨aO,aN,aT⟩,aV,⟨⟨⟨aX,aW,aY⟩,aZ⟩,an⟩,⟨⟨ay,ax,aw⟩,au⟩,⟨aA,az⟩,al⟩:bz) x).av=if !decide ((⟨aO,aN,aT⟩:nY)=⟨fb,fq,kb⟩)||decide (-1∈al) then fj 8 else if !(gG (bH ⟨fb,fq,kb⟩ b.ses)).o || !(decide (nv b.us qs b.gr fb=0)&&nQ b.us (gG (bH ⟨fb,fq,kb⟩ b.ses)).u fb fq) then fj 230 else if aV≤(gG (bH ⟨fb,fq,kb⟩ b.ses)).s then fj (Mw (qR us qs gr l ⟨fb,fq,kb⟩ aV)) else if (gG (bH ⟨fb,fq,kb⟩ b.ses)).s+1<aV then fj 231 else if (jO us qs gr fb fq).ops≤(xK b ⟨fb,fq⟩).ops then fj 9 else .agg [aI (fc us qs gr b (⟨ba,⟨aO,aN,aT⟩,aV,⟨⟨⟨aX,aW,aY⟩,aZ⟩,an⟩,⟨⟨ay,ax,aw⟩,au⟩,⟨aA,az⟩,al⟩:bz)),aB true,a8 2,aI 0,a8 ba,a8 aO,aF aN,a8 aT,aI aV,a8 aX,aF aW,a8 aY,aI aZ,aI an,a8 ay,aF ax,a8 aw,aI au,a8 aA,aF az,mY x,aI (fc us qs gr b (⟨ba,⟨aO,aN,aT⟩,aV,⟨⟨⟨aX,aW,aY⟩,aZ⟩,an⟩,⟨⟨ay,ax,aw⟩,au⟩,⟨aA,az⟩,al⟩:bz)),aI 0,a8 0,aF 0,aB false]:=by
     unfold LG m8
     dsimp only
     split
     ·rfl
     ·split
      ·rfl
      ·split
       ·rfl
       ·split
        ·rfl
        ·split
         ·rfl
         ·rfl
    rw[hav]
    obtain⟨yt,hyt,hyts,_⟩:=Co ba aO aN aT aV aX aW aY aZ an ay ax aw au aA az hax hal
    have htx:mY x=cp ∨∃es c,mY x=AV.ck 1 es c:=by
     rw[←hyt]
     rcases hyts with ⟨rfl,_⟩ | ⟨c,rfl,_⟩
     ·exact .inl rfl
     ·exact .inr ⟨_,_,rfl⟩
    clear hu hq hx hall ho hwu hwq hh hax hs hop hav hU hv hyt hyts
    generalize gG (bH ⟨fb,fq,kb⟩ b.ses)=s at *
    generalize xK b ⟨fb,fq⟩=u at *
    try dsimp only at *
    generalize jO us qs gr fb fq=q at *
    generalize fc us qs gr b (⟨ba,⟨aO,aN,aT⟩,aV,⟨⟨⟨aX,aW,aY⟩,aZ⟩,an⟩,⟨⟨ay,ax,aw⟩,au⟩,⟨aA,az⟩,al⟩:bz)=ve at *
    generalize Mw (qR us qs gr l ⟨fb,fq,kb⟩ aV)=ce at *
    generalize mY x=tx at *
    obtain⟨s1,s2,s3⟩:=s
    obtain⟨u1,u2,u3⟩:=u
    obtain⟨q1,q2,q3,q4,q5⟩:=q
    try dsimp only at *
    have hw:IntKind.i64.wrap (s3+1)=s3+1:=IntWalk.i64_in _ (by omega)
    have hF':=hF s1 s2 s3 fb fq u1 u2 u3 q1 q2 q3 q4 q5 hw
    clear hF hso hw
    generalize (!decide ((⟨aO,aN,aT⟩:nY)=⟨fb,fq,kb⟩)||decide (-1∈al))=b1 at *
    generalize (decide (nv b.us qs b.gr fb=0)&&nQ b.us s2 fb fq)=b2 at *
    have hyv : ∃x3 x4 x5 x6 c2 c3 c4 c5 c6 c7 c8 c9 Y3 Y2 Y1 Y0 YZ YY YX YW c1 z,(z=cp ∨∃es c,z=AV.ck 1 es c) ∧
     (if b1=true then fj 8 else if (!s1 || !b2)=true then fj 230 else if aV≤s3 then fj ce else if s3+1<aV then fj 231 else if q4≤u2 then fj 9 else .agg [aI ve,aB true,a8 2,aI 0,a8 ba,a8 aO,aF aN,a8 aT,aI aV,a8 aX,aF aW,a8 aY,aI aZ,aI an,a8 ay,aF ax,a8 aw,aI au,a8 aA,aF az,tx,aI ve,aI 0,a8 0,aF 0,aB false]) = .agg [aI x3,aB x4,a8 x5,aI x6,a8 c1,a8 c2,aF c3,a8 c4,aI c5,a8 c6,aF c7,a8 c8,aI c9,aI Y3,a8 Y2,aF Y1,a8 Y0,aI YZ,a8 YY,aF YX,z,aI YW,aI 0,a8 0,aF 0,aB false]:=by
     have hc : ∀e:Int,fj e = .agg [aI e,aB false,a8 0,aI 0,a8 0,a8 0,aF 0,a8 0,aI 0,a8 0,aF 0,a8 0,aI 0,aI 0,a8 0,aF 0,a8 0,aI 0,a8 0,aF 0,cp,aI 0,aI 0,a8 0,aF 0,aB false]:=fun e=>rfl
     have key : ∀e:Int,∃x3 x4 x5 x6 c2 c3 c4 c5 c6 c7 c8 c9 Y3 Y2 Y1 Y0 YZ YY YX YW c1 z,(z=cp ∨∃es c,z=AV.ck 1 es c)∧fj e = .agg [aI x3,aB x4,a8 x5,aI x6,a8 c1,a8 c2,aF c3,a8 c4,aI c5,a8 c6,aF c7,a8 c8,aI c9,aI Y3,a8 Y2,aF Y1,a8 Y0,aI YZ,a8 YY,aF YX,z,aI YW,aI 0,a8 0,aF 0,aB false]:=fun e =>
      ⟨e,false,0,0,0,0,0,0,0,0,0,0,0,0,0,0,0,0,0,0,0,cp,.inl rfl,rfl⟩
     split
     ·exact key 8
     ·split
      ·exact key 230
      ·split
       ·exact key ce
       ·split
        ·exact key 231
        ·split
         ·exact key 9
         ·exact⟨ve,true,2,0,aO,aN,aT,aV,aX,aW,aY,aZ,an,ay,ax,aw,au,aA,az,ve,ba,tx,htx,rfl⟩
    obtain⟨x3,x4,x5,x6,c2,c3,c4,c5,c6,c7,c8,c9,Y3,Y2,Y1,Y0,YZ,YY,YX,YW,c1,z,hz,hyy⟩:=hyv
    rw[hyy]at hF' ⊢
    clear hyy htx
    unfold Jg at hO
    have hb0:bad true=0:=rfl
    rcases hz with rfl | ⟨es,c,rfl⟩
    ·refine aG (fn:=Tryz.f52) (c:=jq) rfl (by kernel_rfl) (by kernel_rfl) (by kernel_rfl) (by kernel_rfl) ?_;refine lF _ _ _ _ _ _ fun g=>?_
     simp[ah,ai,ae,af,ab, *,jr]
    ·refine aG (fn:=Tryz.f52) (c:=jq) rfl (by kernel_rfl) (by kernel_rfl) (by kernel_rfl) (by kernel_rfl) ?_;refine lF _ _ _ _ _ _ fun g=>?_
     simp[ah,ai,ae,af,ab, *,jr]
end
end Go.Proofs.YtmkmimgokagimaaGreat
namespace Go.Proofs.YtmkmimgokagimaaGreat
open Go.Ab
section
variable{us:List Clear}{qs:List bn}{gr:Int}{l:List (fY × AV)}(hl:l.length<2048)
include hl
end
end Go.Proofs.YtmkmimgokagimaaGreat
namespace Go.Proofs.YtmkmimgokagimaaGreat
open Go.Ab
theorem wI{a b:UInt32}:a &&& ~~~b=0 ↔ ∀i,a.toBitVec.getLsbD i=true→b.toBitVec.getLsbD i=true:=by
 rw[←UInt32.toBitVec_inj]
 constructor
 ·intro h i hi
  have:=congrArg (fun z=>BitVec.getLsbD z i) h
  simp only[UInt32.toBitVec_and,UInt32.toBitVec_not,BitVec.getLsbD_and,BitVec.getLsbD_not,UInt32.toBitVec_ofNat]at this
  have hlt:i<32:=by
   rcases Nat.lt_or_ge i 32 with h | h
   ·exact h
   ·rw[BitVec.getLsbD_of_ge _ _ h]at hi;cases hi
  simp[hi,hlt]at this
  exact this
 ·intro h
  apply BitVec.eq_of_getLsbD_eq
  intro i hi
  simp only[UInt32.toBitVec_and,UInt32.toBitVec_not,BitVec.getLsbD_and,BitVec.getLsbD_not]
  have:=h i
  cases hc:a.toBitVec.getLsbD i with
  | false=>simp
  | true=>simp[this hc]
theorem Fu{a b c:jS}(h1:nd a b=true)(h2:nd b c=true):nd a c=true:=by
 simp only[nd,Bool.and_eq_true,decide_eq_true_eq]at h1 h2 ⊢
 exact⟨UInt8.le_trans h1.1 h2.1,wI.2 fun i hi=>wI.1 h2.2 i (wI.1 h1.2 i hi)⟩
def pH(v:jS)(o:bz):Bool:=nd (Lt o) v
theorem LD(ents:List (eJ × AV))(i j:eJ):gM (fO i (aB true) ents) j=(decide (j=i)||gM ents j):=by
 unfold gM
 by_cases e:j=i
 ·subst e;rw[pY];simp
 ·rw[od e];simp[e]
theorem wi : ∀(ns:List eJ)(ents:List (eJ × AV)) (j:eJ),gM (wK ents ns) j=(decide (j∈ns)||gM ents j)
 | [],ents,j=>by simp
 | i :: ns,ents,j=>by
  rw[Lo,wi ns,LD]
  by_cases e:j=i<;>simp[e]
theorem No{s:CZ}{i:eJ}(h:i∈eK s):UL i=⟨s.f.h.lv,s.f.h.cats⟩:=by
 unfold eK at h
 obtain⟨k,_,rfl⟩:=List.mem_map.1 h
 rfl
theorem Nm{o:bz}(h:la o=true)(k:o.kind=1):o.s.f.h=o.h:=by
 unfold la Kl at h
 rw[if_pos k]at h
 simp only[Bool.and_eq_true,Kz]at h
 exact(N6 _ _).1 h.2.2.2.2.2.2.1
theorem Cw{v w:jS}(hw:nd w v=true)(i:eJ) : ∀(l:List bz)(out:List jS),vn out (l.filter (pH v)) i w=vn out l i w
 | [],out=>rfl
 | o :: l,out=>by
  rw[List.filter_cons]
  by_cases e:pH v o=true
  ·rw[if_pos e]
   exact Cw hw i l _
  ·rw[if_neg e,Cw hw i l out]
   have hr:mm o i w=false:=by
    cases hr:mm o i w with
    | false=>rfl
    | true =>
     unfold mm at hr
     simp only[Bool.and_eq_true]at hr
     exact absurd (Fu hr.2.2 hw) e
   show vn out l i w=vn (if mm o i w then An out o.to else out) l i w
   rw[hr];rfl
theorem HN{v:jS}{o:bz}(ho:pH v o=true)(l:List bz):nC (l.filter (pH v)) o=nC l o:=by
 unfold nC xV
 simp only[Cw ho]
structure C0 (v:jS) (ops:List (bz × AV)) (ents:List (eJ × AV)) (ops':List (bz × AV)) (ents':List (eJ × AV)):Prop where
 opsE:opsOf ops'=(opsOf ops).filter (pH v)
 there : ∀i,nd (UL i) v=true→gM ents' i=gM ents i
 right:kX [] (opsOf ops)=true
 right':kX [] (opsOf ops')=true
 len:ents.length≤64 * ops.length
 len':ents'.length≤64 * ops'.length
theorem C0.lens{v:jS}{ops:List (bz × AV)}{ents:List (eJ × AV)}{ops':List (bz × AV)}{ents':List (eJ × AV)}(h:C0 v ops ents ops' ents'):ops'.length≤ops.length:=by
 have e:=congrArg List.length h.opsE
 have h2:=List.length_filter_le (pH v) (opsOf ops)
 simp only[opsOf,List.length_map]at e h2
 omega
theorem Hp{v:jS}{ents ents':List (eJ × AV)}(ht : ∀i,nd (UL i) v=true→gM ents' i=gM ents i){o:bz}(ho:pH v o=true)(i:eJ):vg ents' o i=vg ents o i:=by
 unfold vg
 cases e:nd (UL i) (Lt o) with
 | false=>simp
 | true=>rw[ht i (Fu e ho)]
theorem Dg{v:jS}{ents ents':List (eJ × AV)}(ht : ∀i,nd (UL i) v=true→gM ents' i=gM ents i){o:bz}(ho:pH v o=true):q6 ents' o=q6 ents o:=by
 unfold q6
 simp only[Hp ht ho]
theorem any_congr{α:Type}{p q:α→Bool} : ∀ {l:List α},(∀x∈l,p x=q x)→l.any p=l.any q
 | [],_=>rfl
 | x :: l,h=>by
  rw[List.any_cons,List.any_cons,h x List.mem_cons_self,any_congr fun y hy=>h y (List.mem_cons_of_mem _ hy)]
theorem BV{l:List bz}(h:kX [] l=true)(hl:l.length≤2048):pk l=0:=by
 unfold pk
 rw[if_neg (by omega),if_pos h]
section
variable{v:jS}{ops:List (bz × AV)}{ents:List (eJ × AV)}{ops':List (bz × AV)}{ents':List (eJ × AV)}(h:C0 v ops ents ops' ents')(hn:ops.length≤100)
include h hn
theorem K3{o:bz}(ho:pH v o=true)(hB:la o=true):sW ops' ents' o=sW ops ents o:=by
 have hl:=h.lens
 have h1:=h.len
 have h2:=h.len'
 have hs:=kV (qA hB)
 have hk:rT ops' ents' o=rT ops ents o:=by
  unfold rT
  by_cases k1:o.kind=1
  ·rw[if_pos k1,if_pos k1]
   unfold e9
   have hany:(eK o.s).any (gM ents')=(eK o.s).any (gM ents):=any_congr fun i hi=>by
    refine h.there i ?_
    rw[No hi,Nm hB k1]
    exact ho
   rw[Hp h.there ho,hany,if_neg (show ¬8192<(ents'.length:Int)+o.s.many by omega),if_neg (show ¬8192<(ents.length:Int)+o.s.many by omega)]
  ·rw[if_neg k1,if_neg k1]
   by_cases k2:o.kind=2
   ·rw[if_pos k2,if_pos k2]
    unfold yU
    rw[Dg h.there ho]
   ·rw[if_neg k2,if_neg k2]
    unfold z0
    have c1:pk (opsOf ops)=0:=BV h.right (by simp[opsOf];omega)
    have c2:pk (opsOf ops')=0:=BV h.right' (by simp[opsOf];omega)
    rw[Dg h.there ho,c1,c2,h.opsE,HN ho]
 unfold sW
 rw[hk,if_neg (by omega),if_neg (by omega)]
theorem IT{o:bz}(hE:sW ops ents o=0)(hB:la o=true):nC (opsOf ops) o=true:=by
 unfold sW at hE
 rw[if_neg (by omega)]at hE
 unfold rT at hE
 by_cases k3:o.kind=3
 ·rw[if_neg (by rw[k3];decide),if_neg (by rw[k3];decide)]at hE
  unfold z0 at hE
  split at hE
  ·cases hE
  ·split at hE
   ·rename_i h2;exact h2.2
   ·cases hE
 ·unfold nC
  rw[if_neg k3]
end
theorem xP{l:List bz}{o:bz}(h:kX [] l=true)(hB:la o=true)(hf:nC l o=true):kX [] (l++[o])=true:=by
 rw[LV,h,Bool.true_and]
 show(la o&&nC ([]++l) o&&true)=true
 rw[List.nil_append,hB,hf];rfl
theorem kZ(l:List (bz × AV))(p:bz × AV):opsOf (l++[p])=opsOf l++[p.1]:=by simp[opsOf]
def By(ents:List (eJ × AV))(o:bz):List (eJ × AV):=if o.kind=1 then wK ents (eK o.s) else ents
theorem CL{ents:List (eJ × AV)}{o:bz}(hB:la o=true):(By ents o).length≤ents.length+64:=by
 have hs:=kV (qA hB)
 unfold By
 split
 ·have:=Ao (eK o.s) ents
  have hl:(eK o.s).length=o.s.many.toNat:=by simp[eK]
  omega
 ·omega
section
variable{v:jS}{ops:List (bz × AV)}{ents:List (eJ × AV)}{ops':List (bz × AV)}{ents':List (eJ × AV)}(h:C0 v ops ents ops' ents')(hn:ops.length≤100)
include h hn
theorem C0.low{p p':bz × AV}(e:p'.1=p.1)(ho:pH v p.1=true)(hB:la p.1=true)(hE:sW ops ents p.1=0):la p'.1=true∧sW ops' ents' p'.1=0∧C0 v (ops++[p]) (By ents p.1) (ops'++[p']) (By ents' p'.1):=by
 rw[e]
 have hE':sW ops' ents' p.1=0:=by rw[K3 h hn ho hB];exact hE
 refine⟨hB,hE',?_,fun i hi=>?_,?_,?_,?_,?_⟩
 ·rw[kZ,kZ,h.opsE,List.filter_append,e]
  simp[ho]
 ·unfold By
  split
  ·rw[wi,wi,h.there i hi]
  ·exact h.there i hi
 ·rw[kZ];exact xP h.right hB (IT h hn hE hB)
 ·rw[kZ,e]
  refine xP h.right' hB ?_
  rw[h.opsE,HN ho]
  exact IT h hn hE hB
 ·have:=CL (ents:=ents) hB
  have:=h.len
  simp;omega
 ·have:=CL (ents:=ents') hB
  have:=h.len'
  simp;omega
theorem C0.high{p:bz × AV}(ho : ¬pH v p.1=true)(hB:la p.1=true)(hE:sW ops ents p.1=0):C0 v (ops++[p]) (By ents p.1) ops' ents':=by
 refine⟨?_,fun i hi=>?_,?_,h.right',?_,h.len'⟩
 ·rw[kZ,h.opsE,List.filter_append]
  simp[ho]
 ·rw[h.there i hi]
  unfold By
  split
  ·rename_i k1
   rw[wi]
   have:decide (i∈eK p.1.s)=false:=by
    rw[decide_eq_false_iff_not]
    intro hm
    rw[No hm,Nm hB k1]at hi
    exact ho hi
   rw[this];rfl
  ·rfl
 ·rw[kZ];exact xP h.right hB (IT h hn hE hB)
 ·have:=CL (ents:=ents) hB
  have:=h.len
  simp;omega
end
theorem C0.nil(v:jS):C0 v [] [] [] []:=⟨rfl,fun _ _=>rfl,rfl,rfl,Nat.le_refl _,Nat.le_refl _⟩
theorem HR : ∀ {s ops:List (bz × AV)} {ents:List (eJ × AV)} {O:List (bz × AV)} {E:List (eJ × AV)},iK ops ents s=some (O,E)→O=ops++s
 | [],ops,ents,O,E,h=>by
  simp only[iK,Option.some.injEq,Prod.mk.injEq]at h
  rw[←h.1,List.append_nil]
 | p :: s,ops,ents,O,E,h=>by
  unfold iK at h
  split at h
  ·rw[HR h];simp
  ·cases h
theorem FN{p:bz × AV} : ∀ {s ops:List (bz × AV)} {ents:List (eJ × AV)},iK ops ents (s++[p])=(iK ops ents s).bind fun q=>if la p.1=true∧sW q.1 q.2 p.1=0 then some (q.1++[p],By q.2 p.1) else none
 | [],ops,ents=>by
  show(if la p.1=true∧sW ops ents p.1=0 then iK (ops++[p]) (By ents p.1) [] else none)=_
  rfl
 | q :: s,ops,ents=>by
  simp only[List.cons_append,iK]
  split
  ·exact FN
  ·rfl
theorem CN{v:jS} : ∀ {s s' ops ops':List (bz × AV)} {ents ents':List (eJ × AV)} {O:List (bz × AV)} {E:List (eJ × AV)},C0 v ops ents ops' ents'→opsOf s'=(opsOf s).filter (pH v)→ops.length+s.length≤100→iK ops ents s=some (O,E) →
 ∃O' E',iK ops' ents' s'=some (O',E')∧C0 v O E O' E'
 | [],s',ops,ops',ents,ents',O,E,h,hs,hn,hd=>by
  have e:s'=[]:=by
   have:=congrArg List.length hs
   simpa [opsOf] using this
  subst e
  simp only[iK,Option.some.injEq,Prod.mk.injEq]at hd
  obtain⟨rfl,rfl⟩:=hd
  exact⟨ops',ents',rfl,h⟩
 | p :: s,s',ops,ops',ents,ents',O,E,h,hs,hn,hd=>by
  unfold iK at hd
  split at hd
  ·rename_i hc
   simp only[List.length_cons]at hn
   have hs0:opsOf s'=(if pH v p.1=true then p.1 :: (opsOf s).filter (pH v) else (opsOf s).filter (pH v)):=by
    rw[hs]
    show(p.1 :: opsOf s).filter (pH v)=_
    rw[List.filter_cons]
   by_cases ho:pH v p.1=true
   ·rw[if_pos ho]at hs0
    cases s' with
    | nil=>simp[opsOf]at hs0
    | cons p' s' =>
     have hs1:p'.1 :: opsOf s'=p.1 :: (opsOf s).filter (pH v):=hs0
     injection hs1 with e1 e2
     obtain⟨b1,b2,b3⟩:=h.low (by omega) e1 ho hc.1 hc.2
     obtain⟨O',E',g1,g2⟩:=CN b3 e2 (by simp;omega) hd
     refine⟨O',E',?_,g2⟩
     unfold iK
     rw[if_pos ⟨b1,b2⟩]
     exact g1
   ·rw[if_neg ho]at hs0
    exact CN (h.high (by omega) ho hc.1 hc.2) hs0 (by simp;omega) hd
  ·cases hd
theorem K2{v:jS}{s s':List (bz × AV)}{o:bz}(hs:opsOf s'=(opsOf s).filter (pH v))(hn:s.length≤100)(hv:(iK [] [] s).isSome=true)(ho:pH v o=true):kz s' o=kz s o∧(iK [] [] s').isSome=true:=by
 obtain⟨⟨O,E⟩,hd⟩:=Option.isSome_iff_exists.1 hv
 obtain⟨O',E',hd',h⟩:=CN (C0.nil v) hs (by simpa using hn) hd
 have hO:=HR hd
 refine⟨?_,by rw[hd'];rfl⟩
 unfold kz
 rw[hd,hd']
 dsimp only
 by_cases hB:la o=true
 ·rw[if_pos hB,if_pos hB,K3 h (by rw[hO];simpa using hn) ho hB]
 ·rw[if_neg hB,if_neg hB]
theorem IZ{s:List (bz × AV)}{p:bz × AV}(h:kz s p.1=0):(iK [] [] (s++[p])).isSome=true:=by
 unfold kz at h
 rw[FN]
 cases hd:iK [] [] s with
 | none=>rw[hd]at h;cases h
 | some q =>
  obtain⟨O,E⟩:=q
  rw[hd]at h
  dsimp only at h
  by_cases hB:la p.1=true
  ·rw[if_pos hB]at h
   rw[Option.bind_some,if_pos ⟨hB,h⟩];rfl
  ·rw[if_neg hB]at h;cases h
end Go.Proofs.YtmkmimgokagimaaGreat
