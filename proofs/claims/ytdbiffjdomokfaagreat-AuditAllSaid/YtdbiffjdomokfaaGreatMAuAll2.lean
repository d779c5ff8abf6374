/-
  Records of two lists compared, and how great a log is. No statement of a seat is proved here.
-/
import Derived.Test.YtdbiffjdomokfaaGreatLeOnly
import Derived.Test.YtdbiffjdomokfaaGreatMLeTwin
import Derived.Test.YtdbiffjdomokfaaGreatAuAlive
import Derived.Test.YtdbiffjdomokfaaGreatAuVl5
set_option linter.unusedVariables false
set_option linter.unusedSimpArgs false
set_option linter.unusedSectionVars false
set_option linter.unnecessarySimpa false
set_option maxRecDepth 100000
namespace Go.Proofs.YtdbiffjdomokfaaGreat
open Go.Ab
attribute [local simp] bD bq bo bF bE cZ ld bQ bx bA dx dw cg bT aY ct List.take_of_length_le
section
variable{l m:List (jr × AV)}{x y:AV}(hx:Sl 24 (cI l) x)(hy:Sl 24 (cI m) y)(hl : ∀p∈l,xW p)(hm : ∀p∈m,xW p)(hbig:l.length<1000000)
include hx hy hl hm hbig
end
section
variable{xu xq:AV}{us:List Clear}{qs:List bz}{gr:Int}(hu:Sl 3 (eZ us) xu)(hq:Sl 5 (ff qs) xq){l:List (jr × AV)}{x:AV}(hx:Sl 24 (cI l) x)(hl : ∀p∈l,Sl 1 (rows p.1.op.l) p.2)(most:Int)
include hu hq hx hl
theorem IY{q:Ref}{Q:AV→ab→Prop}{H:ab}(hr:H.get q=some ⟨3,[.agg [xu,xq,aI gr]],false,false⟩)(hQ : ∀t:Bool,(t=false→us.length≤100∧qs.length≤100∧(l.length:Int)≤most ∧∀p∈l.take 300,p.1.op.l.length≤300)→Q (aB t) H) :
 ∀(s:List (jr × AV)) (k:Nat) (i n:Int),l.drop k=s→k≤l.length→i=k→k≤300→0≤n→n≤1000 * k→(∀p∈l.take k,min (p.1.op.l.length:Int) 1000≤n) →
 bP env Tryz.f13 0 eH [(8,aI i),(1,x),(7,aI n),(2,aI most),(3,.ptr q 0 0)] H Q:=by
 intro s
 have hG:=Mo gr hu hq
 have hend : ∀n:Int,(∀p∈l.take 300,min (p.1.op.l.length:Int) 1000≤n)→Q (aB (decide (100<(us.length:Int))||decide (100<(qs.length:Int))||decide (most<l.length)||decide (300<n))) H:=by
  intro n hn
  refine hQ _ fun h=>?_
  simp at h
  refine⟨by omega,by omega,by omega,fun p hp=>?_⟩
  have:=hn p hp
  omega
 generalize (decide (100<(us.length:Int))||decide (100<(qs.length:Int)))=gg at *
 induction s with
 | nil =>
  rintro k i n hs hk rfl h3 h0 hn hm
  obtain rfl:=drop_nil hs hk
  rw[List.take_length]at hm
  have hQ':=hend n (fun p hp=>hm p (List.mem_of_mem_take hp))
  refine lb _ _ _ _ _ _ _ fun g=>?_
  clear hQ hend hl hm
  cases gg<;>by_cases hmo:most<l.length<;>simp[ah,ai,ae,af,ad, *,fu,hx.r,hu.r,hq.r]
  all_goals simpa [hmo] using hQ'
 | cons p s ih =>
  rintro k i n hs hk rfl h3 h0 hn hm
  obtain⟨hlt,hg,hs',hg'⟩:=drop_cons hs
  have hpx:=(hl p (hg ▸ List.getElem_mem _)).r
  have e3:=IntWalk.i64_in ((k:Int)+1) (by omega)
  refine lb _ _ _ _ _ _ _ fun g=>?_
  have hkl:(k:Int)<l.length:=by omega
  by_cases h300:k<300
  ·have h300':(k:Int)<300:=by omega
   have hrd1:dX (cI l) k 18 1 false=some p.2:=by simp[cI,hg',jr.val]
   have hrd2:dX (cI l) k 11 1 false=some (aI p.1.op.s.many):=by simp[cI,hg',jr.val]
   have hih:=fun m (h1:0≤m) (h2:m≤1000) (h3:min (p.1.op.l.length:Int) 1000≤m)=>ih (k+1) ((k:Int)+1) (n+m) hs' (by omega) (by simp) (by omega) (by omega) (by omega) (by
    intro q hq
    rw[List.take_add_one,hg']at hq
    rcases List.mem_append.1 hq with hq | hq
    ·have:=hm q hq;omega
    ·simp at hq;subst hq;omega)
   have hw:=fun m (h1:0≤m) (h2:m≤1000)=>IntWalk.i64_in (n+m) (by omega)
   clear ih hQ hend hl hm
   simp[ah,ai,ae,af,ad, *,fu,hx.r,hx.idx]
   rw[hw _ (by repeat' split<;>omega) (by repeat' split<;>omega)]
   exact hih _ (by repeat' split<;>omega) (by repeat' split<;>omega) (by repeat' split<;>omega)
  ·have hk2:k=300:=by omega
   subst hk2
   have hQ':=hend n hm
   have hkl2:300<l.length:=by omega
   have hkl3:(300:Int)<l.length:=by omega
   clear ih hQ hend hl hm
   cases gg<;>by_cases hmo:most<l.length<;>simp[ah,ai,ae,af,ad, *,fu,hx.r,hu.r,hq.r]
   all_goals simpa [hmo] using hQ'
theorem Mw : ∃t:Bool,bj env 13 [.agg [xu,xq,aI gr],x,aI most]=some (aB t)∧(t=false→us.length≤100∧qs.length≤100∧(l.length:Int)≤most ∧∀p∈l.take 300,p.1.op.l.length≤300):=by
 have h : ∃y,bj env 13 [.agg [xu,xq,aI gr],x,aI most]=some y ∧∃t:Bool,y=aB t∧(t=false→us.length≤100∧qs.length≤100∧(l.length:Int)≤most ∧∀p∈l.take 300,p.1.op.l.length≤300):=by
  refine B3 (fn:=Tryz.f13) (c:=jv) (by kernel_rfl) (by kernel_rfl) (by kernel_rfl) (by kernel_rfl) (by kernel_rfl) ?_
  refine rB _ _ _ _ _ fun g=>?_
  have hlp:=fun(q:Ref)(H:ab)(hr:H.get q=some ⟨3,[.agg [xu,xq,aI gr]],false,false⟩)=>IY (q:=q) (H:=H) (Q:=fun x H =>∃y,handed env 13 x H y ∧∃t:Bool,y=aB t∧(t=false→us.length≤100∧qs.length≤100∧(l.length:Int)≤most ∧∀p∈l.take 300,p.1.op.l.length≤300)) (gr:=gr) hu hq hx hl most hr (fun t ht=>⟨aB t,by simp,t,rfl,ht⟩) l 0 0 0 rfl (by omega) rfl (by simp) (by simp) (by simp) (by simp)
  have key : ∀Q:AV→ab→Prop,(∀(q:Ref)(H:ab),H.get q=some ⟨3,[.agg [xu,xq,aI gr]],false,false⟩→bP env Tryz.f13 0 eH [(8,aI 0),(1,x),(7,aI 0),(2,aI most),(3,.ptr q 0 0)] H Q)→jy g (.agg [xu,xq,aI gr]) x (aI most) [] Q:=by
   intro Q h
   clear hlp
   simp[ah,ai,ae,af,ad, *,jy,hu.r,hq.r]
  exact key _ hlp
 obtain⟨y,h1,t,rfl,h2⟩:=h
 exact⟨t,h1,h2⟩
end
end Go.Proofs.YtdbiffjdomokfaaGreat
namespace Go.Proofs.YtdbiffjdomokfaaGreat
open Go.Ab
theorem Nd{us0:List Clear}{qs:List bz}{gr0:Int} : ∀(l:List (jr × AV)) {b b':iw},UD us0 qs gr0 b l=some b' →∀p∈l,lT p.1=true
 | [],_,_,_=>by intro p hp;cases hp
 | q :: l,b,b',h=>by
  unfold UD at h
  split at h
  ·rename_i hc
   intro p hp
   rcases List.mem_cons.1 hp with rfl | hp
   ·exact hc.1
   ·exact Nd l h p hp
  ·cases h
theorem SC{us:List Clear}{qs:List bz}{gr:Int}{l:List (jr × AV)}{b:iw}(h:BM us qs gr l=some b) : ∀p∈l,lT p.1=true:=by
 unfold BM at h
 split at h
 ·exact Nd l h
 ·cases h
theorem QA(c:UInt32):c &&& ~~~(4294967295:UInt32)=0:=by
 rw[show ~~~(4294967295:UInt32)=0 from by decide]
 simp
theorem M9{p:jr × AV}(his:lT p.1=true):eM ⟨15,4294967295⟩ p=true:=by
 by_cases k3:p.1.kind=3
 ·simp[eM,k3]
 ·have hv:p.1.op.h.lv≤15:=by
   by_cases k1:p.1.kind=1
   ·unfold lT at his
    rw[if_pos k1]at his
    simp only[Bool.and_eq_true]at his
    have:=his.2.1
    simp[lV]at this
    exact this.1
   ·by_cases k2:p.1.kind=2
    ·unfold lT at his
     rw[if_neg k1,if_pos k2]at his
     simp only[Bool.and_eq_true]at his
     have:=his.2.1
     simp[qy,lV]at this
     exact this.1.1
    ·simp[lT,k1,k2,k3]at his
  simp[eM,zB,hv,QA]
end Go.Proofs.YtdbiffjdomokfaaGreat
namespace Go.Proofs.YtdbiffjdomokfaaGreat
open Go.Ab
attribute [local simp] bD bq bo bF bE cZ ld bQ bx bA dx dw cg bT aY ct List.take_of_length_le
def IN(p:jr × AV):Bool:=decide (p.1.kind=3)
theorem tl{p:jr × AV}(h:p.1.kind=3)(l:List (jr × AV)):cP (p :: l)=cP l:=by simp[cP,h]
theorem tj{p:jr × AV}(h : ¬p.1.kind=3)(l:List (jr × AV)):cP (p :: l)=⟨p.1.op.h,p.1.op.serial,p.1.code⟩ :: cP l:=by simp[cP,h]
section
variable{x1 x8 x10:AV}{l:List (jr × AV)}(hx:Sl 24 (cI l) x1)(h8:Sl 5 (eE (cP l)) x8)(hlen:l.length≤1000){x5 x12:AV}
include hx h8 hlen
theorem LB{Q:AV→ab→Prop} : ∀(s:List (jr × AV)) (k g:Nat) (H:ab),l.drop k=s→k≤l.length→(cP l).drop (k - g)=cP s→g≤k→k - g≤(cP l).length →
 (∀H' (n:Nat),n=g+s.countP IN→H'=H→bP env Tryz.f5 0 cJ [(18,aI 0),(8,x8),(17,cW),(5,x5),(15,aI n),(12,x12),(10,x10),(14,aI (cP l).length),(7,aB true)] H' Q) →
 bP env Tryz.f5 0 dN [(16,aI k),(15,aI g),(14,aI ((k - g:Nat):Int)),(1,x1),(8,x8),(5,x5),(12,x12),(10,x10),(7,aB true)] H Q:=by
 intro s
 induction s with
 | nil =>
  rintro k g H hs hk hE hg hle hQ
  obtain rfl:=drop_nil hs hk
  have he:(cP l).length=l.length - g:=by
   have h1:=congrArg List.length hE
   rw[List.length_drop]at h1
   have e0:(cP ([]:List (jr × AV))).length=0:=rfl
   omega
  have hfin:=hQ H g (by simp) rfl
  rw[he]at hfin
  refine fX _ _ _ _ _ _ _ _ _ _ _ fun g=>?_
  simp[ah,ai,ae,af,ad, *,eL,hx.r]
 | cons p s ih =>
  rintro k g' H hs hk hE hg hle hQ
  obtain⟨hlt,hgk,hs',hgk'⟩:=drop_cons hs
  have e1:=yB ((k:Int)+1) (by omega) (by omega)
  have e2:=yB ((g':Int)+1) (by omega) (by omega)
  have e3:=yB (((k - g':Nat):Int)+1) (by omega) (by omega)
  have hrdk : ∀(j n:Nat)(ag:Bool),dX (cI l) k j n ag=dX [p.1.val p.2] 0 j n ag:=by
   intro j n ag
   simp[dX,cI,hgk']
  by_cases h3:p.1.kind=3
  ·have hn:=ih (k+1) (g'+1) H hs' (by omega) (by rw[Nat.add_sub_add_right,hE,tl h3]) (by omega) (by omega) (fun H' n hn e=>hQ H' n (by rw[hn,List.countP_cons,show IN p=true from by simp[IN,h3]];simp;omega) e)
   clear ih hQ hE hs hs' hgk hgk'
   obtain⟨⟨k1,u,⟨a1,⟨a2,a3,a4⟩,a5,⟨⟨⟨a6,a7,a8'⟩,a9⟩,a10⟩,⟨⟨a11,a12,a13⟩,a14⟩,⟨a15,a16⟩,al⟩,c,g1,v,w,o⟩,x⟩:=p
   simp only at h3
   subst h3
   have hRl:=lN l
   generalize cI l=er at *
   refine fX _ _ _ _ _ _ _ _ _ _ _ fun g=>?_
   simp[ah,ai,ae,af,ad, *,eL,hx.r,hx.idx,hlt,hRl,hrdk,jr.val]
   rw[Nat.add_sub_add_right,show((k+1:Nat):Int)=(k:Int)+1 from by omega,show((g'+1:Nat):Int)=(g':Int)+1 from by omega]at hn
   exact hn
  ·have hE':(cP l).drop (k - g')=⟨p.1.op.h,p.1.op.serial,p.1.code⟩ :: cP s:=by rw[hE,tj h3]
   obtain⟨hlE,hgE,hsE,hgE'⟩:=drop_cons hE'
   have hn:=ih (k+1) g' H hs' (by omega) (by rw[show k+1 - g'=k - g'+1 from by omega];exact hsE) (by omega) (by omega) (fun H' n hn e=>hQ H' n (by rw[hn,List.countP_cons,show IN p=false from by simp[IN,h3]];simp) e)
   have hrdE:dX (eE (cP l)) (k - g') 0 5 true=some (jW.enc ⟨p.1.op.h,p.1.op.serial,p.1.code⟩):=by simp[eE,hgE',jW.enc]
   have hEl:=oD (cP l)
   clear ih hQ hE hE' hsE hgE hgE' hs hs' hgk hgk'
   obtain⟨⟨k1,u,⟨a1,⟨a2,a3,a4⟩,a5,⟨⟨⟨a6,a7,a8'⟩,a9⟩,a10⟩,⟨⟨a11,a12,a13⟩,a14⟩,⟨a15,a16⟩,al⟩,c,g1,v,w,o⟩,x⟩:=p
   simp only at h3 hrdE
   have hRl:=lN l
   generalize cI l=er at *
   generalize eE (cP l)=ee at *
   generalize (cP l).length=ne at *
   have hneq:=QX ⟨⟨a2,a3,a4⟩,a5,c⟩ ⟨⟨a2,a3,a4⟩,a5,c⟩
   simp only at hneq
   rw[show k+1 - g'=k - g'+1 from by omega,show((k+1:Nat):Int)=(k:Int)+1 from by omega,show((k - g'+1:Nat):Int)=((k - g':Nat):Int)+1 from by omega]at hn
   generalize hkg:k - g'=kg at *
   have hnk : ¬ne≤kg:=by omega
   refine fX _ _ _ _ _ _ _ _ _ _ _ fun g=>?_
   simp[ah,ai,ae,af,ad, *,eL,hx.r,hx.idx,h8.r,h8.idx,hlt,hRl,hEl,hlE,hrdk,hrdE,jr.val,jW.enc,h3,hneq,hnk]
end
theorem R7(a b:mL):bj env 20 [.agg [a8 a.lv,aF a.cats],.agg [a8 b.lv,aF b.cats]]=some (aB (zB a b)):=Bx a.lv a.cats b.lv b.cats
def uN(v:mL)(e:jW):Bool:=zB ⟨e.h.lv,e.h.cats⟩ v
section
variable{x8 x10:AV}{en:List jW}{v:mL}(h8:Sl 5 (eE en) x8)(h10:Sl 5 (eE (en.filter (uN v))) x10)(hlen:en.length≤1000){q q2:Ref}(hqt:q.t=5)(hq2t:q2.t=12){a b c d G:Int}
 (hab:a+b+c=((en.filter (uN v)).length:Int)) (ha0:0≤a∧a≤1000) (hb0:0≤b∧b≤1000) (hc0:0≤c∧c≤1000) (hd:d=G)
include h8 h10 hlen hqt hq2t hab ha0 hb0 hc0 hd
theorem LA{Q:AV→ab→Prop}(hQ : ∀H',Q (aB true) H') : ∀(s:List jW)(k:Nat)(outs:List jW)(H:ab)(x17:AV),en.drop k=s→k≤en.length→outs.length≤k→Fr H→H.get q=some ⟨2,[.agg [a8 v.lv,aF v.cats]],false,false⟩ →
 H.get q2=some ⟨4,[.agg [aI a,aI b,aI c,aI d]],false,false⟩→Own 5 (eE outs) H x17→(∀r,x17.at?=some r→r.t=130)→outs++s.filter (uN v)=en.filter (uN v) →
 bP env Tryz.f5 0 cJ [(18,aI k),(8,x8),(17,x17),(5,.ptr q 0 0),(15,aI G),(12,.ptr q2 0 0),(10,x10),(14,aI en.length),(7,aB true)] H Q:=by
 intro s
 induction s with
 | nil =>
  rintro k outs H x17 hs hk ho hF hq hq2 h17 ht hE
  obtain rfl:=drop_nil hs hk
  rw[List.filter_nil,List.append_nil]at hE
  rw[←hE]at h10 hab
  have hEl:=oD en
  have hOl:=oD outs
  have hlq:(H.get q).isSome=true:=by rw[hq];rfl
  have hlq2:(H.get q2).isSome=true:=by rw[hq2];rfl
  have w1:=yB (a+b) (by omega) (by omega)
  have w2:=yB (a+b+c) (by omega) (by omega)
  have hS : ∀x,Sl 5 (eE outs) x→bj env 17 [x,x10]=some (aB true):=fun x hx=>by
   have h:=F4 hx h10 (by omega)
   simpa using h
  have h10r:=h10.r
  have hol:outs.length≤1000:=by omega
  clear hE hs h10 hqt hq2t
  subst hd
  refine fW _ _ _ _ _ _ _ _ _ _ _ fun g=>?_
  generalize eE outs=eo at *
  generalize outs.length=nh at *
  rcases h17 with ⟨rfl,h⟩ | ⟨r,rfl,h⟩
  ·have hS':=hS cW (.inl ⟨rfl,h⟩)
   subst h
   simp at hOl
   subst hOl
   have w3:=yB 0 (by omega) (by omega)
   simp[ah,ai,ae,af,ad, *,cK,h8.r,h10r,hS',hq2,w1,w2,w3,hab]
  ·have hS':=hS (.cw 5 eo none) (.inr ⟨none,rfl,by simp⟩)
   have w3:=yB (nh:Int) (by omega) (by omega)
   simp[ah,ai,ae,af,ad, *,cK,h8.r,h10r,hS',hq2,w1,w2,w3,hab,h]
 | cons e s ih =>
  rintro k outs H x17 hs hk ho hF hq hq2 h17 ht hE
  obtain⟨hlt,hg,hs',hg'⟩:=drop_cons hs
  have e1:=yB ((k:Int)+1) (by omega) (by omega)
  have hlq:(H.get q).isSome=true:=by rw[hq];rfl
  have hlq2:(H.get q2).isSome=true:=by rw[hq2];rfl
  have hrd:dX (eE en) k 0 5 true=some e.enc:=by simp[eE,hg',jW.enc]
  have hrd2:dX (eE en) k 0 2 true=some (.agg [a8 e.h.lv,aF e.h.cats]):=by simp[dX,eE,hg',jW.enc]
  have hL:=R7 ⟨e.h.lv,e.h.cats⟩ v
  have hEl:=oD en
  have hOl:=oD outs
  have hlt':(k:Int)<en.length:=by omega
  cases hb:uN v e with
  | true =>
   have hn:=fun H' x' h1 h2 h3 h4 h5=>ih (k+1) (outs++[e]) H' x' hs' (by omega) (by simp;omega) h1 h2 h3 h4 h5 (by rw[←hE,List.filter_cons,if_pos hb];simp)
   rw[show eE (outs++[e])=eE outs++[e.enc] from by simp[eE],show((k+1:Nat):Int)=(k:Int)+1 from by omega]at hn
   unfold uN at hb
   rw[hb]at hL
   clear ih hE hs hs' hg hg' hab h10
   refine fW _ _ _ _ _ _ _ _ _ _ _ fun g=>?_
   simp only[jW.enc]at hn hrd
   generalize eE en=ee at *
   generalize eE outs=eo at *
   generalize outs.length=nh at *
   obtain⟨qd,qt,qg,qk⟩:=q
   obtain⟨q2d,q2t,q2g,q2k⟩:=q2
   simp only at hqt hq2t
   subst hqt hq2t
   rcases h17 with ⟨rfl,h⟩ | ⟨r,rfl,h⟩
   ·subst h
    simp at hOl
    subst hOl
    simp[ah,ai,ae,af,ad, *,cK,h8.r,h8.idx,hEl,hlt,hrd,hrd2,hq,hL]
    refine hn _ (.cH ⟨0,130,H.gen 0 130,0⟩ 0 1 none) ?_ ?_ ?_ (.inr ⟨⟨0,130,H.gen 0 130,0⟩,rfl,?_⟩) (fun r hr=>by cases hr;rfl)
    ·exact by simp(maxDischargeDepth:=12) [ab.get_put,aq,an,Fr.nil,aD,ah,ai,ae,af,ar,ao,ad, *]
    ·exact by simp(maxDischargeDepth:=12) [ab.get_put,aq,an,Fr.nil,aD,ah,ai,ae,af,ar,ao,ad, *]
    ·exact by simp(maxDischargeDepth:=12) [ab.get_put,aq,an,Fr.nil,aD,ah,ai,ae,af,ar,ao,ad, *]
    ·exact by simp(maxDischargeDepth:=12) [ab.get_put,aq,an,Fr.nil,aD,ah,ai,ae,af,ar,ao,ad, *]
   ·have e30:=ht r rfl
    obtain⟨td,tt,tg,tk⟩:=r
    simp only at e30
    subst e30
    have f6:lQ 5 32 nh true none (some ⟨5,eo,true,false⟩) (some [.agg [a8 e.h.lv,aF e.h.cats,a8 e.h.num,aI e.serial,aI e.code]]):=by
     simp;omega
    have l8:(H.get ⟨td,130,tg,tk⟩).isSome=true:=by rw[h];rfl
    simp[ah,ai,ae,af,ad, *,cK,h8.r,h8.idx,hEl,hlt,hrd,hrd2,hq,hL,hOl,l8,h,f6]
    refine hn _ (.cH ⟨td,130,H.gen td 130,0⟩ 0 (nh+1) none) ?_ ?_ ?_ (.inr ⟨⟨td,130,H.gen td 130,0⟩,by simp[hOl],?_⟩) (fun r hr=>by cases hr;rfl)
    ·exact by simp(maxDischargeDepth:=12) [ab.get_put,aq,an,Fr.nil,aD,ah,ai,ae,af,ar,ao,ad, *]
    ·exact by simp(maxDischargeDepth:=12) [ab.get_put,aq,an,Fr.nil,aD,ah,ai,ae,af,ar,ao,ad, *]
    ·exact by simp(maxDischargeDepth:=12) [ab.get_put,aq,an,Fr.nil,aD,ah,ai,ae,af,ar,ao,ad, *]
    ·exact by simp(maxDischargeDepth:=12) [ab.get_put,aq,an,Fr.nil,aD,ah,ai,ae,af,ar,ao,ad, *]
  | false =>
   have hn:=fun H' x' h1 h2 h3 h4 h5=>ih (k+1) outs H' x' hs' (by omega) (by omega) h1 h2 h3 h4 h5 (by rw[←hE,List.filter_cons,if_neg (by simp[hb])])
   rw[show((k+1:Nat):Int)=(k:Int)+1 from by omega]at hn
   unfold uN at hb
   rw[hb]at hL
   clear ih hE hs hs' hg hg' hab h10
   refine fW _ _ _ _ _ _ _ _ _ _ _ fun g=>?_
   simp only[jW.enc]at hrd
   generalize eE en=ee at *
   simp[ah,ai,ae,af,ad, *,cK,h8.r,h8.idx,hEl,hlt,hrd,hrd2,hq,hL]
   exact hn _ _ hF hq hq2 h17 ht
end
end Go.Proofs.YtdbiffjdomokfaaGreat
namespace Go.Proofs.YtdbiffjdomokfaaGreat
open Go.Ab
attribute [local simp] bD bq bo bF bE cZ ld bQ bx bA dx dw cg bT aY ct List.take_of_length_le
theorem Hl(v:mL) : ∀(l:List (jr × AV)),cP (l.filter (eM v))=(cP l).filter (uN v)
 | []=>rfl
 | p :: l=>by
  have ih:=Hl v l
  by_cases h3:p.1.kind=3
  ·rw[List.filter_cons,if_pos (by simp[eM,h3]),tl h3,tl h3,ih]
  ·rw[tj h3,List.filter_cons,List.filter_cons]
   have e:eM v p=uN v ⟨p.1.op.h,p.1.op.serial,p.1.code⟩:=by simp[eM,uN,h3]
   rw[e]
   split
   ·rw[tj h3,ih]
   ·exact ih
theorem Ck : ∀(l:List (jr × AV)),(cP l).length+l.countP IN=l.length
 | []=>rfl
 | p :: l=>by
  have ih:=Ck l
  by_cases h3:p.1.kind=3
  ·rw[tl h3,List.countP_cons,show IN p=true from by simp[IN,h3]];simp;omega
  ·rw[tj h3,List.countP_cons,show IN p=false from by simp[IN,h3]];simp;omega
theorem JU(v:mL) : ∀(l:List (jr × AV)),(l.filter (eM v)).countP IN=l.countP IN
 | []=>rfl
 | p :: l=>by
  have ih:=JU v l
  rw[List.filter_cons,List.countP_cons]
  by_cases h3:p.1.kind=3
  ·rw[if_pos (by simp[eM,h3]),List.countP_cons,ih]
  ·have e:IN p=false:=by simp[IN,h3]
   rw[e]
   split
   ·rw[List.countP_cons,e,ih]
   ·simp[ih]
theorem KW{l:List (jr × AV)}(h : ∀p∈l,lT p.1=true):l.filter (eM ⟨15,4294967295⟩)=l :=
 List.filter_eq_self.2 fun p hp=>M9 (h p hp)
section
variable{xu xq:AV}{us:List Clear}{qs:List bz}{gr:Int}(hu:Sl 3 (eZ us) xu)(hq:Sl 5 (ff qs) xq){l:List (jr × AV)}{x1:AV}(hx:Sl 24 (cI l) x1)(hl : ∀p∈l,Sl 1 (rows p.1.op.l) p.2)
include hu hq hx hl
theorem Om(v1:UInt8)(v2:UInt32):bj env 5 [.agg [xu,xq,aI gr],x1,.agg [a8 v1,aF v2]]=some (aB true):=by
 obtain⟨t,hG,ht⟩:=Mw (gr:=gr) hu hq hx hl 25
 have hA:=Kv
 refine aL (fn:=Tryz.f5) (c:=fa) rfl (by kernel_rfl) (by kernel_rfl) (by kernel_rfl) (by kernel_rfl) ?_;refine pw _ _ _ _ _ fun g=>?_
 cases t with
 | true =>
  clear hl
  simp[ah,ai,ae,af,ad, *,ew,hx.r,hu.r,hq.r]
 | false =>
  obtain⟨b1,b2,b3,b4⟩:=ht rfl
  have hll:l.length≤25:=by omega
  have hok : ∀p∈l,xW p:=fun p hp=>⟨hl p hp,by have:=b4 p (by rw[List.take_of_length_le (by omega)];exact hp);omega⟩
  have hul:us.length<1000000:=by omega
  have hql:qs.length<1000000:=by omega
  obtain⟨yt,ht1,htA⟩:=EK (gr:=gr) hu hq hul hql hx hok (by omega) 15 4294967295
  obtain⟨yv,hv1,hvA⟩:=EK (gr:=gr) hu hq hul hql hx hok (by omega) v1 v2
  have hC:=F9 (gr:=gr) hu hq hul hql hx hok (by omega) v1 v2
  unfold EF at htA hvA
  unfold AX at hC
  cases ho:BM us qs gr l with
  | none =>
   rw[ho]at htA hvA hC
   simp at htA hvA hC
   subst htA hvA
   clear hok hl b4 ho
   simp[ah,ai,ae,af,ad, *,ew,hx.r,hu.r,hq.r,ht1,hv1,hC]
  | some b =>
   have his:=SC ho
   have hT:=KW his
   rw[ho]at htA hvA hC
   rw[if_pos ⟨rfl,by decide⟩,hT]at htA
   obtain⟨x8,h8,rfl⟩:=htA
   by_cases hv:v1≤15
   ·rw[if_pos ⟨rfl,hv⟩]at hvA hC
    obtain⟨x10,h10,rfl⟩:=hvA
    have hlen:=Ck l
    have hlen2:=Ck (l.filter (eM ⟨v1,v2⟩))
    rw[JU]at hlen2
    have hsum:=RK (cP (l.filter (eM ⟨v1,v2⟩)))
    rw[Hl]at h10 hC hsum hlen2
    unfold Cy at hC
    clear hok hl b4 ho ht his hT
    simp[ah,ai,ae,af,ad, *,ew,hx.r,hu.r,hq.r,ht1,hv1,hC,h8.r,h10.r]
    refine LB hx h8 (by omega) l 0 0 _ rfl (by omega) rfl (by omega) (by omega) (fun H' n hn e=>?_)
    subst e
    have hn':n=l.countP IN:=by rw[hn];omega
    have hle2:=List.length_filter_le (uN ⟨v1,v2⟩) (cP l)
    refine LA (v:=⟨v1,v2⟩) (a:=(((cP l).filter (uN ⟨v1,v2⟩)).countP qe:Nat)) (b:=(((cP l).filter (uN ⟨v1,v2⟩)).countP xc:Nat)) (c:=(((cP l).filter (uN ⟨v1,v2⟩)).countP xb:Nat)) (d:=((l.filter (eM ⟨v1,v2⟩)).length:Int) - (((cP l).filter (uN ⟨v1,v2⟩)).countP qe:Nat) - (((cP l).filter (uN ⟨v1,v2⟩)).countP xc:Nat) - (((cP l).filter (uN ⟨v1,v2⟩)).countP xb:Nat)) (G:=n)
     h8 h10 (by omega) rfl rfl (by omega) ⟨by omega,by omega⟩ ⟨by omega,by omega⟩ ⟨by omega,by omega⟩ (by omega) (fun H'=>by simp) (cP l) 0 [] _ cW rfl (by omega) (by simp) ?_ ?_ ?_ (.inl ⟨rfl,rfl⟩) (fun r hr=>by cases hr) rfl
    ·exact by simp(maxDischargeDepth:=12) [ab.get_put,aq,an,Fr.nil,aD,ah,ai,ae,af,ar,ao,ad, *]
    ·simp
    ·simp
   ·rw[if_neg (fun h=>hv h.2)]at hvA hC
    subst hvA
    clear hok hl b4 ho his
    simp[ah,ai,ae,af,ad, *,ew,hx.r,hu.r,hq.r,ht1,hv1,hC,h8.r]
end
end Go.Proofs.YtdbiffjdomokfaaGreat
