/-
  Records of two lists compared, and how great a log is. No statement of a seat is proved here.
-/
import Derived.Test.YtdbiffjdomokfaaGreatLeOnly
import Derived.Test.YtdbiffjdomokfaaGreatMLeTwin
import Derived.Test.YtdbiffjdomokfaaGreatAuAlive
import Derived.Test.YtdbiffjdomokfaaGreatAuVl5
set_option linter.unusedVariables false
set_option linter.unusedSimpArgs false
set_option linter.unusedSectionVars false
set_option linter.unnecessarySimpa false
set_option maxRecDepth 100000
namespace Go.Proofs.YtdbiffjdomokfaaGreat
open Go.Ab
attribute [local simp] bD bp bl bC bB cV lj bP bt bA dc db cg bR aV cm List.take_of_length_le
def Ly(l:List (gA × AV)):List gA:=l.map (·.1)
@[simp] theorem Zv(l:List (gA × AV)):(Ly l).length=l.length:=by simp[Ly]
section
variable{l m:List (gA × AV)}{x y:AV}(hx:Sl 24 (bU l) x)(hy:Sl 24 (bU m) y)(hl : ∀p∈l,uJ p)(hm : ∀p∈m,uJ p)(hbig:l.length<1000000)
include hx hy hl hm hbig
end
section
variable{xu xq:AV}{us:List Clear}{qs:List bu}{gr:Int}(hu:Sl 3 (eW us) xu)(hq:Sl 5 (eY qs) xq){l:List (gA × AV)}{x:AV}(hx:Sl 24 (bU l) x)(hl : ∀p∈l,Sl 1 (rows p.1.op.l) p.2)(most:Int)
include hu hq hx hl
theorem JI{q:Ref}{Q:AV→ab→Prop}{H:ab}(hr:H.get q=some ⟨3,[.agg [xu,xq,aI gr]],false,false⟩)(hQ : ∀t:Bool,(t=false→us.length≤100∧qs.length≤100∧(l.length:Int)≤most ∧∀p∈l.take 300,p.1.op.l.length≤300)→Q (aB t) H) :
 ∀(s:List (gA × AV)) (k:Nat) (i n:Int),l.drop k=s→k≤l.length→i=k→k≤300→0≤n→n≤1000 * k→(∀p∈l.take k,min (p.1.op.l.length:Int) 1000≤n) →
 bT env Tryz.f13 0 eJ [(8,aI i),(1,x),(7,aI n),(2,aI most),(3,.ptr q 0 0)] H Q:=by
 intro s
 have hG:=Nj gr hu hq
 have hend : ∀n:Int,(∀p∈l.take 300,min (p.1.op.l.length:Int) 1000≤n)→Q (aB (decide (100<(us.length:Int))||decide (100<(qs.length:Int))||decide (most<l.length)||decide (300<n))) H:=by
  intro n hn
  refine hQ _ fun h=>?_
  simp at h
  refine⟨by omega,by omega,by omega,fun p hp=>?_⟩
  have:=hn p hp
  omega
 generalize (decide (100<(us.length:Int))||decide (100<(qs.length:Int)))=gg at *
 induction s with
 | nil =>
  rintro k i n hs hk rfl h3 h0 hn hm
  obtain rfl:=drop_nil hs hk
  rw[List.take_length]at hm
  have hQ':=hend n (fun p hp=>hm p (List.mem_of_mem_take hp))
  refine lz _ _ _ _ _ _ _ fun g=>?_
  clear hQ hend hl hm
  cases gg<;>by_cases hmo:most<l.length<;>simp[ah,ai,ae,af,ad, *,fx,hx.r,hu.r,hq.r]
  all_goals simpa [hmo] using hQ'
 | cons p s ih =>
  rintro k i n hs hk rfl h3 h0 hn hm
  obtain⟨hlt,hg,hs',hg'⟩:=drop_cons hs
  have hpx:=(hl p (hg ▸ List.getElem_mem _)).r
  have e3:=IntWalk.i64_in ((k:Int)+1) (by omega)
  refine lz _ _ _ _ _ _ _ fun g=>?_
  have hkl:(k:Int)<l.length:=by omega
  by_cases h300:k<300
  ·have h300':(k:Int)<300:=by omega
   have hrd1:eL (bU l) k 18 1 false=some p.2:=by simp[bU,hg',gA.val]
   have hrd2:eL (bU l) k 11 1 false=some (aI p.1.op.s.many):=by simp[bU,hg',gA.val]
   have hih:=fun m (h1:0≤m) (h2:m≤1000) (h3:min (p.1.op.l.length:Int) 1000≤m)=>ih (k+1) ((k:Int)+1) (n+m) hs' (by omega) (by simp) (by omega) (by omega) (by omega) (by
    intro q hq
    rw[List.take_add_one,hg']at hq
    rcases List.mem_append.1 hq with hq | hq
    ·have:=hm q hq;omega
    ·simp at hq;subst hq;omega)
   have hw:=fun m (h1:0≤m) (h2:m≤1000)=>IntWalk.i64_in (n+m) (by omega)
   clear ih hQ hend hl hm
   simp[ah,ai,ae,af,ad, *,fx,hx.r,hx.idx]
   rw[hw _ (by repeat' split<;>omega) (by repeat' split<;>omega)]
   exact hih _ (by repeat' split<;>omega) (by repeat' split<;>omega) (by repeat' split<;>omega)
  ·have hk2:k=300:=by omega
   subst hk2
   have hQ':=hend n hm
   have hkl2:300<l.length:=by omega
   have hkl3:(300:Int)<l.length:=by omega
   clear ih hQ hend hl hm
   cases gg<;>by_cases hmo:most<l.length<;>simp[ah,ai,ae,af,ad, *,fx,hx.r,hu.r,hq.r]
   all_goals simpa [hmo] using hQ'
theorem Nq : ∃t:Bool,bj env 13 [.agg [xu,xq,aI gr],x,aI most]=some (aB t)∧(t=false→us.length≤100∧qs.length≤100∧(l.length:Int)≤most ∧∀p∈l.take 300,p.1.op.l.length≤300):=by
 have h : ∃y,bj env 13 [.agg [xu,xq,aI gr],x,aI most]=some y ∧∃t:Bool,y=aB t∧(t=false→us.length≤100∧qs.length≤100∧(l.length:Int)≤most ∧∀p∈l.take 300,p.1.op.l.length≤300):=by
  refine Cu (fn:=Tryz.f13) (c:=jv) (by kernel_rfl) (by kernel_rfl) (by kernel_rfl) (by kernel_rfl) (by kernel_rfl) ?_
  refine rS _ _ _ _ _ fun g=>?_
  have hlp:=fun(q:Ref)(H:ab)(hr:H.get q=some ⟨3,[.agg [xu,xq,aI gr]],false,false⟩)=>JI (q:=q) (H:=H) (Q:=fun x H =>∃y,handed env 13 x H y ∧∃t:Bool,y=aB t∧(t=false→us.length≤100∧qs.length≤100∧(l.length:Int)≤most ∧∀p∈l.take 300,p.1.op.l.length≤300)) (gr:=gr) hu hq hx hl most hr (fun t ht=>⟨aB t,by simp,t,rfl,ht⟩) l 0 0 0 rfl (by omega) rfl (by simp) (by simp) (by simp) (by simp)
  have key : ∀Q:AV→ab→Prop,(∀(q:Ref)(H:ab),H.get q=some ⟨3,[.agg [xu,xq,aI gr]],false,false⟩→bT env Tryz.f13 0 eJ [(8,aI 0),(1,x),(7,aI 0),(2,aI most),(3,.ptr q 0 0)] H Q)→jy g (.agg [xu,xq,aI gr]) x (aI most) [] Q:=by
   intro Q h
   clear hlp
   simp[ah,ai,ae,af,ad, *,jy,hu.r,hq.r]
  exact key _ hlp
 obtain⟨y,h1,t,rfl,h2⟩:=h
 exact⟨t,h1,h2⟩
end
end Go.Proofs.YtdbiffjdomokfaaGreat
namespace Go.Proofs.YtdbiffjdomokfaaGreat
open Go.Ab
end Go.Proofs.YtdbiffjdomokfaaGreat
namespace Go.Proofs.YtdbiffjdomokfaaGreat
open Go.Ab
attribute [local simp] bD bp bl bC bB cV lj bP bt bA dc db cg bR aV cm List.take_of_length_le
def XP(p:gA × AV):Bool:=decide (p.1.kind=3)
theorem xF{p:gA × AV}(h:p.1.kind=3)(l:List (gA × AV)):fe (p :: l)=fe l:=by simp[fe,h]
theorem xE{p:gA × AV}(h : ¬p.1.kind=3)(l:List (gA × AV)):fe (p :: l)=⟨p.1.op.h,p.1.op.serial,p.1.code⟩ :: fe l:=by simp[fe,h]
section
variable{x1 x8 x10:AV}{l:List (gA × AV)}(hx:Sl 24 (bU l) x1)(h8:Sl 5 (gN (fe l)) x8)(hlen:l.length≤1000){x5 x12:AV}
include hx h8 hlen
end
def Xu(v:jz)(e:m0):Bool:=nP ⟨e.h.lv,e.h.cats⟩ v
section
variable{x8 x10:AV}{en:List m0}{v:jz}(h8:Sl 5 (gN en) x8)(h10:Sl 5 (gN (en.filter (Xu v))) x10)(hlen:en.length≤1000){q q2:Ref}(hqt:q.t=5)(hq2t:q2.t=12){a b c d G:Int}
 (hab:a+b+c=((en.filter (Xu v)).length:Int)) (ha0:0≤a∧a≤1000) (hb0:0≤b∧b≤1000) (hc0:0≤c∧c≤1000) (hd:d=G)
include h8 h10 hlen hqt hq2t hab ha0 hb0 hc0 hd
end
end Go.Proofs.YtdbiffjdomokfaaGreat
namespace Go.Proofs.YtdbiffjdomokfaaGreat
open Go.Ab
attribute [local simp] bD bp bl bC bB cV lj bP bt bA dc db cg bR aV cm List.take_of_length_le
theorem CP : ∀(l:List (gA × AV)),(fe l).length+l.countP XP=l.length
 | []=>rfl
 | p :: l=>by
  have ih:=CP l
  by_cases h3:p.1.kind=3
  ·rw[xF h3,List.countP_cons,show XP p=true from by simp[XP,h3]];simp;omega
  ·rw[xE h3,List.countP_cons,show XP p=false from by simp[XP,h3]];simp;omega
section
variable{xu xq:AV}{us:List Clear}{qs:List bu}{gr:Int}(hu:Sl 3 (eW us) xu)(hq:Sl 5 (eY qs) xq){l:List (gA × AV)}{x1:AV}(hx:Sl 24 (bU l) x1)(hl : ∀p∈l,Sl 1 (rows p.1.op.l) p.2)
include hu hq hx hl
end
end Go.Proofs.YtdbiffjdomokfaaGreat
