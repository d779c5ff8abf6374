/-
  What is asked of a log: whether it may be, and whether a record fits. No statement of a seat is proved here.
-/
import Derived.Test.YtmkmimgokagimaaGreatLeOf4
import Derived.Test.YtmkmimgokagimaaGreatMLeTwin
set_option linter.unusedVariables false
set_option linter.unusedSimpArgs false
set_option linter.unusedSectionVars false
set_option linter.unnecessarySimpa false
set_option maxRecDepth 100000
namespace Go.Proofs.YtmkmimgokagimaaGreat
open Go.Ab
attribute [local simp] bn aV aF bj bh keep thr bD aX bc dx dw cN bE aD ct List.take_of_length_le
def uy(o:Option Book)(wr:Int)(zero:AV)(R:Book→AV→Heap→Prop)(y:AV)(H:Heap):Prop:=match o with
 | none=>y = .tup [zero,aI 8]
 | some b=>if wr=0 then R b y H else y = .tup [zero,aI wr]
section
variable{xu xq:AV}{us:List Clear}{qs:List Quota}{gr:Int}(hu:Sl 3 (gz us) xu)(hq:Sl 5 (gS qs) xq)(hul:us.length<1000000)(hql:qs.length<1000000){l:List (Rcd × AV)}{x1:AV}(hx:Sl 24 (dv l) x1)(hall : ∀p∈l,okRc p)
include hu hq hul hql hx hall
theorem AG:limf env 34 [.agg [xu,xq,aI gr],x1]=some (aI (if (ofA us qs gr l).isSome then 0 else 8)):=by
 refine az (fn:=Tryz.f34) (c:=pQ) rfl (by kernel_rfl) (by kernel_rfl) (by kernel_rfl) (by kernel_rfl) ?_;refine vq _ _ _ _ fun g=>?_
 have hF0:Fr [(⟨0,2,0,0⟩,some ⟨3,[.agg [xu,xq,aI gr]],false,false⟩)]:=by simp(maxDischargeDepth:=12) [Heap.an,aq,aj,Fr.nil,ax,af,ah,ad,ae,ao,ak,ab, *]
 obtain⟨y,H2,hO,hA⟩:=s_Of (gr:=gr) hu hq hul hql hx hall 0 hF0
 simp[af,ah,ad,ae,ab, *,p8,hx.r,hu.r,hq.r]
 refine Ax (by kernel_rfl) hO ?_
 cases ho:ofA us qs gr l with
 | none =>
  rw[ho]at hA
  obtain⟨rfl,hG⟩:=hA
  simp
 | some b =>
  rw[ho]at hA
  obtain⟨rb,rs,ru,rk,xh,xr,rfl,hI,hok⟩:=hA
  simp
end
end Go.Proofs.YtmkmimgokagimaaGreat
namespace Go.Proofs.YtmkmimgokagimaaGreat
open Go.Ab
attribute [local simp] bn aV aF bj bh keep thr bD aX bc dx dw cN bE aD ct List.take_of_length_le
theorem Ja{E:Env}{f:FuncId}{fn:Func}{c:Code}{args:List AV}{R:AV→Prop}(hsp:E.spec f args=none)(hal:E.allowed f=true)(hf:E.P.funcs[f]?=some fn)(hc:fn.body=some c)(hl:Nat.ble args.length fn.ntmps=true)
 (h:GoL E fn 0 [.code c] (rH 0 args) [] fun x H =>∃y,o3 E f x H y∧R y) : ∃y,limf E f args=some y∧R y:=by
 obtain⟨x,H,⟨y,hQ,hR⟩,n,hn⟩:=h.h (fun _=>AV.undef) args fun i=>(zA args i).symm
 refine⟨y,rC.2 ⟨n,fun m hm=>?_⟩,hR⟩
 obtain⟨st,h1,h2,h3⟩:=hn m hm
 subst h3
 unfold bm
 rw[hsp]
 unfold pH
 simp only[hal,if_true,hf,hc,if_pos (Nat.le_of_ble_eq_true hl),h1,h2,Option.map_some]
 unfold o3 at hQ
 split
 ·rename_i h1
  rw[if_pos h1]at hQ
  rw[if_pos hQ.1]
  exact hQ.2
 ·rename_i h1
  rw[if_neg h1]at hQ
  exact hQ
section
variable{recs:List (Rcd × AV)}(hrl:recs.length≤2048)(hok : ∀p∈recs,okRc p){dep:Nat}{q:Ref}(hqt:q.t≠30∧q.t≠6){xr:AV}(hxt : ∀r,xr.at?=some r→r.t=62)(v1:UInt8)(v2:UInt32){Q:AV→Heap→Prop}
include hrl hok hqt hxt
end
section
variable{xu xq:AV}{us:List Clear}{qs:List Quota}{gr:Int}(hu:Sl 3 (gz us) xu)(hq:Sl 5 (gS qs) xq)(hul:us.length<1000000)(hql:qs.length<1000000){l:List (Rcd × AV)}{x1:AV}(hx:Sl 24 (dv l) x1)(hall : ∀p∈l,okRc p)
include hu hq hul hql hx hall
end
end Go.Proofs.YtmkmimgokagimaaGreat
namespace Go.Proofs.YtmkmimgokagimaaGreat
open Go.Ab
attribute [local simp] bn aV aF bj bh keep thr bD aX bc dx dw cN bE aD ct List.take_of_length_le
section
variable{l m:List (Rcd × AV)}{x y:AV}(hx:Sl 24 (dv l) x)(hy:Sl 24 (dv m) y)(hl : ∀p∈l,okRc p)(hm : ∀p∈m,okRc p)(hbig:l.length<1000000)
include hx hy hl hm hbig
end
section
variable{xu xq:AV}{us:List Clear}{qs:List Quota}{gr:Int}(hu:Sl 3 (gz us) xu)(hq:Sl 5 (gS qs) xq){l:List (Rcd × AV)}{x:AV}(hx:Sl 24 (dv l) x)(hl : ∀p∈l,Sl 1 (rows p.1.op.l) p.2)(most:Int)
include hu hq hx hl
theorem EJ{q:Ref}{Q:AV→Heap→Prop}{H:Heap}(hr:H.get q=some ⟨3,[.agg [xu,xq,aI gr]],false,false⟩)(hQ : ∀t:Bool,(t=false→us.length≤100∧qs.length≤100∧(l.length:Int)≤most ∧∀p∈l.take 300,p.1.op.l.length≤300)→Q (aB t) H) :
 ∀(s:List (Rcd × AV)) (k:Nat) (i n:Int),l.drop k=s→k≤l.length→i=k→k≤300→0≤n→n≤1000 * k→(∀p∈l.take k,min (p.1.op.l.length:Int) 1000≤n) →
 GoL env Tryz.f13 0 cW [(8,aI i),(1,x),(7,aI n),(2,aI most),(3,.ptr q 0 0)] H Q:=by
 intro s
 have hG:=Ih gr hu hq
 have hend : ∀n:Int,(∀p∈l.take 300,min (p.1.op.l.length:Int) 1000≤n)→Q (aB (decide (100<(us.length:Int))||decide (100<(qs.length:Int))||decide (most<l.length)||decide (300<n))) H:=by
  intro n hn
  refine hQ _ fun h=>?_
  simp at h
  refine⟨by omega,by omega,by omega,fun p hp=>?_⟩
  have:=hn p hp
  omega
 generalize (decide (100<(us.length:Int))||decide (100<(qs.length:Int)))=gg at *
 induction s with
 | nil =>
  rintro k i n hs hk rfl h3 h0 hn hm
  obtain rfl:=drop_nil hs hk
  rw[List.take_length]at hm
  have hQ':=hend n (fun p hp=>hm p (List.mem_of_mem_take hp))
  refine iM _ _ _ _ _ _ _ fun g=>?_
  clear hQ hend hl hm
  cases gg<;>by_cases hmo:most<l.length<;>simp[af,ah,ad,ae,ab, *,dM,hx.r,hu.r,hq.r]
  all_goals simpa [hmo] using hQ'
 | cons p s ih =>
  rintro k i n hs hk rfl h3 h0 hn hm
  obtain⟨hlt,hg,hs',hg'⟩:=drop_cons hs
  have hpx:=(hl p (hg ▸ List.getElem_mem _)).r
  have e3:=IntWalk.i64_in ((k:Int)+1) (by omega)
  refine iM _ _ _ _ _ _ _ fun g=>?_
  have hkl:(k:Int)<l.length:=by omega
  by_cases h300:k<300
  ·have h300':(k:Int)<300:=by omega
   have hrd1:dy (dv l) k 18 1 false=some p.2:=by simp[dv,hg',Rcd.val]
   have hrd2:dy (dv l) k 11 1 false=some (aI p.1.op.s.many):=by simp[dv,hg',Rcd.val]
   have hih:=fun m (h1:0≤m) (h2:m≤1000) (h3:min (p.1.op.l.length:Int) 1000≤m)=>ih (k+1) ((k:Int)+1) (n+m) hs' (by omega) (by simp) (by omega) (by omega) (by omega) (by
    intro q hq
    rw[List.take_add_one,hg']at hq
    rcases List.mem_append.1 hq with hq | hq
    ·have:=hm q hq;omega
    ·simp at hq;subst hq;omega)
   have hw:=fun m (h1:0≤m) (h2:m≤1000)=>IntWalk.i64_in (n+m) (by omega)
   clear ih hQ hend hl hm
   simp[af,ah,ad,ae,ab, *,dM,hx.r,hx.idx]
   rw[hw _ (by repeat' split<;>omega) (by repeat' split<;>omega)]
   exact hih _ (by repeat' split<;>omega) (by repeat' split<;>omega) (by repeat' split<;>omega)
  ·have hk2:k=300:=by omega
   subst hk2
   have hQ':=hend n hm
   have hkl2:300<l.length:=by omega
   have hkl3:(300:Int)<l.length:=by omega
   clear ih hQ hend hl hm
   cases gg<;>by_cases hmo:most<l.length<;>simp[af,ah,ad,ae,ab, *,dM,hx.r,hu.r,hq.r]
   all_goals simpa [hmo] using hQ'
theorem Io : ∃t:Bool,limf env 13 [.agg [xu,xq,aI gr],x,aI most]=some (aB t)∧(t=false→us.length≤100∧qs.length≤100∧(l.length:Int)≤most ∧∀p∈l.take 300,p.1.op.l.length≤300):=by
 have h : ∃y,limf env 13 [.agg [xu,xq,aI gr],x,aI most]=some y ∧∃t:Bool,y=aB t∧(t=false→us.length≤100∧qs.length≤100∧(l.length:Int)≤most ∧∀p∈l.take 300,p.1.op.l.length≤300):=by
  refine Ja (fn:=Tryz.f13) (c:=gw) (by kernel_rfl) (by kernel_rfl) (by kernel_rfl) (by kernel_rfl) (by kernel_rfl) ?_
  refine nJ _ _ _ _ _ fun g=>?_
  have hlp:=fun(q:Ref)(H:Heap)(hr:H.get q=some ⟨3,[.agg [xu,xq,aI gr]],false,false⟩)=>EJ (q:=q) (H:=H) (Q:=fun x H =>∃y,o3 env 13 x H y ∧∃t:Bool,y=aB t∧(t=false→us.length≤100∧qs.length≤100∧(l.length:Int)≤most ∧∀p∈l.take 300,p.1.op.l.length≤300)) (gr:=gr) hu hq hx hl most hr (fun t ht=>⟨aB t,by simp,t,rfl,ht⟩) l 0 0 0 rfl (by omega) rfl (by simp) (by simp) (by simp) (by simp)
  have key : ∀Q:AV→Heap→Prop,(∀(q:Ref)(H:Heap),H.get q=some ⟨3,[.agg [xu,xq,aI gr]],false,false⟩→GoL env Tryz.f13 0 cW [(8,aI 0),(1,x),(7,aI 0),(2,aI most),(3,.ptr q 0 0)] H Q)→gy g (.agg [xu,xq,aI gr]) x (aI most) [] Q:=by
   intro Q h
   clear hlp
   simp[af,ah,ad,ae,ab, *,gy,hu.r,hq.r]
  exact key _ hlp
 obtain⟨y,h1,t,rfl,h2⟩:=h
 exact⟨t,h1,h2⟩
end
end Go.Proofs.YtmkmimgokagimaaGreat
namespace Go.Proofs.YtmkmimgokagimaaGreat
open Go.Ab
theorem Kb{us0:List Clear}{qs:List Quota}{gr0:Int} : ∀(l:List (Rcd × AV)) {b b':Book},ofB us0 qs gr0 b l=some b' →∀p∈l,jd p.1=true
 | [],_,_,_=>by intro p hp;cases hp
 | q :: l,b,b',h=>by
  unfold ofB at h
  split at h
  ·rename_i hc
   intro p hp
   rcases List.mem_cons.1 hp with rfl | hp
   ·exact hc.1
   ·exact Kb l h p hp
  ·cases h
theorem OR{us:List Clear}{qs:List Quota}{gr:Int}{l:List (Rcd × AV)}{b:Book}(h:ofA us qs gr l=some b) : ∀p∈l,jd p.1=true:=by
 unfold ofA at h
 split at h
 ·exact Kb l h
 ·cases h
end Go.Proofs.YtmkmimgokagimaaGreat
