/-
  Records of two lists compared, and how great a log is. No statement of a seat is proved here.
-/
import Derived.Test.YtmkmimgokagimaaGreatLeOnly
import Derived.Test.YtmkmimgokagimaaGreatMLeTwin
set_option linter.unusedVariables false
set_option linter.unusedSimpArgs false
set_option linter.unusedSectionVars false
set_option linter.unnecessarySimpa false
set_option maxRecDepth 100000
namespace Go.Proofs.YtmkmimgokagimaaGreat
open Go.Ab
attribute [local simp] bx aZ aL bw bu keep thr bD bh bq dC dB cP bF aE cC List.take_of_length_le
theorem N8(a_1:UInt8)(a_2:UInt8)(a_3:UInt32)(a_4:UInt8)(a_5:Int)(a_6:UInt8)(a_7:UInt32)(a_8:UInt8)(a_9:Int)(a_10:Int)(a_11:UInt8)(a_12:UInt32)(a_13:UInt8)(a_14:Int)(a_15:UInt8)(a_16:UInt32)(b_1:UInt8)(b_2:UInt8)(b_3:UInt32)(b_4:UInt8)(b_5:Int)(b_6:UInt8)(b_7:UInt32)(b_8:UInt8)(b_9:Int)(b_10:Int)(b_11:UInt8)(b_12:UInt32)(b_13:UInt8)(b_14:Int)(b_15:UInt8)(b_16:UInt32){x y:AV}{l m:List Int}(hx:Sl 1 (rows l) x)(hy:Sl 1 (rows m) y)(hl:l.length<1000000000)(hm:m.length<1000000000):limf env 62 [.agg [a8 a_1,a8 a_2,a32 a_3,a8 a_4,aI a_5,a8 a_6,a32 a_7,a8 a_8,aI a_9,aI a_10,a8 a_11,a32 a_12,a8 a_13,aI a_14,a8 a_15,a32 a_16,x],.agg [a8 b_1,a8 b_2,a32 b_3,a8 b_4,aI b_5,a8 b_6,a32 b_7,a8 b_8,aI b_9,aI b_10,a8 b_11,a32 b_12,a8 b_13,aI b_14,a8 b_15,a32 b_16,y]]=some (aB (xd (⟨a_1,⟨a_2,a_3,a_4⟩,a_5,⟨⟨⟨a_6,a_7,a_8⟩,a_9⟩,a_10⟩,⟨⟨a_11,a_12,a_13⟩,a_14⟩,⟨a_15,a_16⟩,l⟩:Opn) (⟨b_1,⟨b_2,b_3,b_4⟩,b_5,⟨⟨⟨b_6,b_7,b_8⟩,b_9⟩,b_10⟩,⟨⟨b_11,b_12,b_13⟩,b_14⟩,⟨b_15,b_16⟩,m⟩:Opn))):=by
 refine aA (fn:=Tryz.f62) (c:=kP) rfl (by kernel_rfl) (by kernel_rfl) (by kernel_rfl) (by kernel_rfl) ?_;refine oI _ _ _ _ fun g=>?_
 have hq:=HN hx hy (by omega)
 have hr:=hx.r
 have hr2:=hy.r
 unfold xd
 cases c1:decide (a_1=b_1) with
 | false=>simp[af,ah,ad,ae,ab, *,bQ,eqA,eqFs]
 | true =>
 cases c2:(decide (a_2=b_2)&&decide (a_3=b_3)&&decide (a_4=b_4)) with
 | false=>simp[af,ah,ad,ae,ab, *,bQ,eqA,eqFs]
 | true =>
 cases c3:decide (a_5=b_5) with
 | false=>simp[af,ah,ad,ae,ab, *,bQ,eqA,eqFs]
 | true =>
 cases c4:(decide (a_6=b_6)&&decide (a_7=b_7)&&decide (a_8=b_8)&&decide (a_9=b_9)&&decide (a_10=b_10)) with
 | false=>simp[af,ah,ad,ae,ab, *,bQ,eqA,eqFs]
 | true =>
 cases c5:(decide (a_11=b_11)&&decide (a_12=b_12)&&decide (a_13=b_13)&&decide (a_14=b_14)) with
 | false=>simp[af,ah,ad,ae,ab, *,bQ,eqA,eqFs]
 | true =>
 cases c6:(decide (a_15=b_15)&&decide (a_16=b_16)) with
 | false=>simp[af,ah,ad,ae,ab, *,bQ,eqA,eqFs]
 | true=>simp[af,ah,ad,ae,ab, *,bQ,eqA,eqFs]
theorem K0(k1 k2:UInt8)(u1 u2:Int)(a_1:UInt8)(a_2:UInt8)(a_3:UInt32)(a_4:UInt8)(a_5:Int)(a_6:UInt8)(a_7:UInt32)(a_8:UInt8)(a_9:Int)(a_10:Int)(a_11:UInt8)(a_12:UInt32)(a_13:UInt8)(a_14:Int)(a_15:UInt8)(a_16:UInt32)(b_1:UInt8)(b_2:UInt8)(b_3:UInt32)(b_4:UInt8)(b_5:Int)(b_6:UInt8)(b_7:UInt32)(b_8:UInt8)(b_9:Int)(b_10:Int)(b_11:UInt8)(b_12:UInt32)(b_13:UInt8)(b_14:Int)(b_15:UInt8)(b_16:UInt32)(c1 c2 g1 g2:Int)(v1 v2:UInt8)(w1 w2:UInt32)(o1 o2:Bool){x y:AV}{l m:List Int}(hx:Sl 1 (rows l) x)(hy:Sl 1 (rows m) y)(hl:l.length<1000000000)(hm:m.length<1000000000) :
 limf env 80 [.agg [a8 k1,aI u1,a8 a_1,a8 a_2,a32 a_3,a8 a_4,aI a_5,a8 a_6,a32 a_7,a8 a_8,aI a_9,aI a_10,a8 a_11,a32 a_12,a8 a_13,aI a_14,a8 a_15,a32 a_16,x,aI c1,aI g1,a8 v1,a32 w1,aB o1],.agg [a8 k2,aI u2,a8 b_1,a8 b_2,a32 b_3,a8 b_4,aI b_5,a8 b_6,a32 b_7,a8 b_8,aI b_9,aI b_10,a8 b_11,a32 b_12,a8 b_13,aI b_14,a8 b_15,a32 b_16,y,aI c2,aI g2,a8 v2,a32 w2,aB o2]] =
  some (aB (mN ⟨k1,u1,(⟨a_1,⟨a_2,a_3,a_4⟩,a_5,⟨⟨⟨a_6,a_7,a_8⟩,a_9⟩,a_10⟩,⟨⟨a_11,a_12,a_13⟩,a_14⟩,⟨a_15,a_16⟩,l⟩:Opn),c1,g1,v1,w1,o1⟩ ⟨k2,u2,(⟨b_1,⟨b_2,b_3,b_4⟩,b_5,⟨⟨⟨b_6,b_7,b_8⟩,b_9⟩,b_10⟩,⟨⟨b_11,b_12,b_13⟩,b_14⟩,⟨b_15,b_16⟩,m⟩:Opn),c2,g2,v2,w2,o2⟩)):=by
 refine aA (fn:=Tryz.f80) (c:=kO) rfl (by kernel_rfl) (by kernel_rfl) (by kernel_rfl) (by kernel_rfl) ?_;refine oH _ _ _ _ fun g=>?_
 have hq:=N8 a_1 a_2 a_3 a_4 a_5 a_6 a_7 a_8 a_9 a_10 a_11 a_12 a_13 a_14 a_15 a_16 b_1 b_2 b_3 b_4 b_5 b_6 b_7 b_8 b_9 b_10 b_11 b_12 b_13 b_14 b_15 b_16 hx hy hl hm
 have hr:=hx.r
 have hr2:=hy.r
 unfold mN
 cases e1:decide (k1=k2) with
 | false=>simp[af,ah,ad,ae,ab, *,cS,eqA,eqFs]
 | true =>
 cases e2:decide (u1=u2) with
 | false=>simp[af,ah,ad,ae,ab, *,cS,eqA,eqFs]
 | true =>
 cases e3:xd (⟨a_1,⟨a_2,a_3,a_4⟩,a_5,⟨⟨⟨a_6,a_7,a_8⟩,a_9⟩,a_10⟩,⟨⟨a_11,a_12,a_13⟩,a_14⟩,⟨a_15,a_16⟩,l⟩:Opn) (⟨b_1,⟨b_2,b_3,b_4⟩,b_5,⟨⟨⟨b_6,b_7,b_8⟩,b_9⟩,b_10⟩,⟨⟨b_11,b_12,b_13⟩,b_14⟩,⟨b_15,b_16⟩,m⟩:Opn) with
 | false=>simp[af,ah,ad,ae,ab, *,cS,eqA,eqFs]
 | true =>
 cases e4:decide (c1=c2) with
 | false=>simp[af,ah,ad,ae,ab, *,cS,eqA,eqFs]
 | true=>simp[af,ah,ad,ae,ab, *,cS,eqA,eqFs]
theorem IB{a b:Opn}(h:xd a b=true):a=b:=by
 obtain⟨a_1,⟨a_2,a_3,a_4⟩,a_5,⟨⟨⟨a_6,a_7,a_8⟩,a_9⟩,a_10⟩,⟨⟨a_11,a_12,a_13⟩,a_14⟩,⟨a_15,a_16⟩,al⟩:=a
 obtain⟨b_1,⟨b_2,b_3,b_4⟩,b_5,⟨⟨⟨b_6,b_7,b_8⟩,b_9⟩,b_10⟩,⟨⟨b_11,b_12,b_13⟩,b_14⟩,⟨b_15,b_16⟩,bl⟩:=b
 simp[xd]at h
 simp[h]
theorem HI{a b:Rcd}(h:mN a b=true):a=b:=by
 obtain⟨a1,a2,a3,a4,a5,a6,a7,a8⟩:=a
 obtain⟨b1,b2,b3,b4,b5,b6,b7,b8⟩:=b
 simp only[mN,Bool.and_eq_true,decide_eq_true_eq]at h
 obtain⟨h1,h2,h3,h4,h5,⟨h6,h7⟩,h8⟩:=h
 rw[h1,h2,IB h3,h4,h5,h6,h7,h8]
theorem DH(a:Rcd):mN a a=true:=by simp[mN,xd]
def rcs(l:List (Rcd × AV)):List Rcd:=l.map (·.1)
@[simp] theorem Sc(l:List (Rcd × AV)):(rcs l).length=l.length:=by simp[rcs]
theorem E8(a b:Rcd):mN a b=true↔a=b:=⟨HI,fun h=>by rw[h];exact DH b⟩
theorem R8{p q:Rcd × AV}(hp:okRc p)(hq:okRc q):limf env 80 [p.1.val p.2,q.1.val q.2]=some (aB (mN p.1 q.1)):=by
 obtain⟨⟨k,u,⟨a_1,⟨a_2,a_3,a_4⟩,a_5,⟨⟨⟨a_6,a_7,a_8⟩,a_9⟩,a_10⟩,⟨⟨a_11,a_12,a_13⟩,a_14⟩,⟨a_15,a_16⟩,l⟩,c,g,v,w,o⟩,x⟩:=p
 obtain⟨⟨k',u',⟨b_1,⟨b_2,b_3,b_4⟩,b_5,⟨⟨⟨b_6,b_7,b_8⟩,b_9⟩,b_10⟩,⟨⟨b_11,b_12,b_13⟩,b_14⟩,⟨b_15,b_16⟩,m⟩,c',g',v',w',o'⟩,y⟩:=q
 exact K0 k k' u u' a_1 a_2 a_3 a_4 a_5 a_6 a_7 a_8 a_9 a_10 a_11 a_12 a_13 a_14 a_15 a_16 b_1 b_2 b_3 b_4 b_5 b_6 b_7 b_8 b_9 b_10 b_11 b_12 b_13 b_14 b_15 b_16 c c' g g' v v' w w' o o' hp.1 hq.1 (by have:=hp.2;simp at this;omega) (by have:=hq.2;simp at this;omega)
def tj:List Rcd→List Rcd→Bool
 | [],[]=>true
 | a :: l,b :: m=>mN a b&&tj l m
 | _,_=>false
theorem Aq : ∀(l m:List Rcd),tj l m=true↔l=m:=by
 intro l
 induction l with
 | nil=>intro m;cases m<;>simp[tj]
 | cons a l ih=>intro m;cases m with
  | nil=>simp[tj]
  | cons b m=>simp[tj,E8,ih]
theorem DI(l:List Rcd):tj l l=true:=(Aq l l).2 rfl
theorem E9{l m:List Rcd}(h:l.length≠m.length):tj l m=false:=by
 cases e:tj l m with
 | false=>rfl
 | true=>exact absurd (congrArg List.length ((Aq l m).1 e)) h
section
variable{l m:List (Rcd × AV)}{x y:AV}(hx:Sl 24 (dA l) x)(hy:Sl 24 (dA m) y)(hl : ∀p∈l,okRc p)(hm : ∀p∈m,okRc p)(hbig:l.length<1000000)
include hx hy hl hm hbig
theorem Ar(hlm:l.length=m.length){Q:AV→Heap→Prop}{H:Heap} : ∀(s t:List (Rcd × AV)) (k:Nat) (i:Int),l.drop k=s→m.drop k=t→k≤l.length→i=k→(Q (aB (tj (rcs s) (rcs t))) H) →
 GoL env Tryz.f22 0 dk [(5,aI i),(1,y),(0,x)] H Q:=by
 intro s
 induction s with
 | nil =>
  rintro t k i hs ht hk rfl hQ
  obtain rfl:=drop_nil hs hk
  rw[hlm,List.drop_length]at ht
  subst ht
  refine hJ _ _ _ _ _ fun g=>?_
  simp[af,ah,ad,ae,ab, *,dn,hx.r]
  all_goals simpa [rcs,tj] using hQ
 | cons p s ih =>
  rintro t k i hs ht hk rfl hQ
  obtain⟨hlt,hg,hs',hg'⟩:=drop_cons hs
  have hlt2:k<m.length:=by omega
  obtain⟨q,t',rfl⟩ : ∃q t',t=q :: t':=by
   cases t with
   | nil=>have:=congrArg List.length ht;simp at this;omega
   | cons q t'=>exact⟨q,t',rfl⟩
  obtain⟨_,hgm,ht',hgm'⟩:=drop_cons ht
  have hpx:=hl p (hg ▸ List.getElem_mem _)
  have hpy:=hm q (hgm ▸ List.getElem_mem _)
  have hq:=R8 hpx hpy
  have e3:=IntWalk.i64_in ((k:Int)+1) (by omega)
  have hih:=ih t' (k+1) ((k:Int)+1) hs' ht' (by omega) (by simp)
  have hr1:=hpx.1.r
  have hr2:=hpy.1.r
  have hrd1:fk (dA l) k 0 24 true=some (p.1.val p.2):=by simp[dA,hg',Rcd.val]
  have hrd2:fk (dA m) k 0 24 true=some (q.1.val q.2):=by simp[dA,hgm',Rcd.val]
  have hQ':Q (aB (mN p.1 q.1&&tj (rcs s) (rcs t'))) H:=hQ
  clear ih hQ hl hm
  unfold Rcd.val at hq hrd1 hrd2
  generalize mN p.1 q.1=e at *
  refine hJ _ _ _ _ _ fun g=>?_
  cases e with
  | false=>simp[af,ah,ad,ae,ab, *,dn,hx.r,hx.idx,hy.r,hy.idx];simpa using hQ'
  | true =>
   rw[Bool.true_and]at hQ'
   have hih':=hih hQ'
   clear hih hQ'
   simp[af,ah,ad,ae,ab, *,dn,hx.r,hx.idx,hy.r,hy.idx]
theorem Fi:limf env 22 [x,y]=some (aB (tj (rcs l) (rcs m))):=by
 refine aA (fn:=Tryz.f22) (c:=fv) rfl (by kernel_rfl) (by kernel_rfl) (by kernel_rfl) (by kernel_rfl) ?_;refine mM _ _ _ _ fun g=>?_
 by_cases hlm:l.length=m.length
 ·have h:=Ar hx hy hl hm hbig hlm (Q:=fun v H=>pe env 22 v H (aB (tj (rcs l) (rcs m)))) (H:=[]) l m 0 0 rfl rfl (by omega) rfl (by simp)
  have h1:=hx.r
  have h2:=hy.r
  rw[lM]at h1 h2
  rw[hlm]at h1
  clear hl hm
  simp[af,ah,ad,ae,ab, *,fw]
  exact h
 ·have hne : ¬(l.length:Int)=m.length:=by omega
  rw[E9 (by simpa using hlm)]
  clear hl hm
  simp[af,ah,ad,ae,ab, *,fw,hx.r,hy.r]
end
section
variable{xu xq:AV}{us:List Clear}{qs:List Quota}{gr:Int}(hu:Sl 3 (gY us) xu)(hq:Sl 5 (iq qs) xq){l:List (Rcd × AV)}{x:AV}(hx:Sl 24 (dA l) x)(hl : ∀p∈l,Sl 1 (rows p.1.op.l) p.2)(most:Int)
include hu hq hx hl
theorem Eg{q:Ref}{Q:AV→Heap→Prop}{H:Heap}(hr:H.get q=some ⟨3,[.agg [xu,xq,aI gr]],false,false⟩)(hQ : ∀t:Bool,(t=false→us.length≤100∧qs.length≤100∧(l.length:Int)≤most ∧∀p∈l.take 300,p.1.op.l.length≤300)→Q (aB t) H) :
 ∀(s:List (Rcd × AV)) (k:Nat) (i n:Int),l.drop k=s→k≤l.length→i=k→k≤300→0≤n→n≤1000 * k→(∀p∈l.take k,min (p.1.op.l.length:Int) 1000≤n) →
 GoL env Tryz.f13 0 cT [(8,aI i),(1,x),(7,aI n),(2,aI most),(3,.ptr q 0 0)] H Q:=by
 intro s
 have hG:=HP gr hu hq
 have hend : ∀n:Int,(∀p∈l.take 300,min (p.1.op.l.length:Int) 1000≤n)→Q (aB (decide (100<(us.length:Int))||decide (100<(qs.length:Int))||decide (most<l.length)||decide (300<n))) H:=by
  intro n hn
  refine hQ _ fun h=>?_
  simp at h
  refine⟨by omega,by omega,by omega,fun p hp=>?_⟩
  have:=hn p hp
  omega
 generalize (decide (100<(us.length:Int))||decide (100<(qs.length:Int)))=gg at *
 induction s with
 | nil =>
  rintro k i n hs hk rfl h3 h0 hn hm
  obtain rfl:=drop_nil hs hk
  rw[List.take_length]at hm
  have hQ':=hend n (fun p hp=>hm p (List.mem_of_mem_take hp))
  refine iL _ _ _ _ _ _ _ fun g=>?_
  clear hQ hend hl hm
  cases gg<;>by_cases hmo:most<l.length<;>simp[af,ah,ad,ae,ab, *,dI,hx.r,hu.r,hq.r]
  all_goals simpa [hmo] using hQ'
 | cons p s ih =>
  rintro k i n hs hk rfl h3 h0 hn hm
  obtain⟨hlt,hg,hs',hg'⟩:=drop_cons hs
  have hpx:=(hl p (hg ▸ List.getElem_mem _)).r
  have e3:=IntWalk.i64_in ((k:Int)+1) (by omega)
  refine iL _ _ _ _ _ _ _ fun g=>?_
  have hkl:(k:Int)<l.length:=by omega
  by_cases h300:k<300
  ·have h300':(k:Int)<300:=by omega
   have hrd1:fk (dA l) k 18 1 false=some p.2:=by simp[dA,hg',Rcd.val]
   have hrd2:fk (dA l) k 11 1 false=some (aI p.1.op.s.many):=by simp[dA,hg',Rcd.val]
   have hih:=fun m (h1:0≤m) (h2:m≤1000) (h3:min (p.1.op.l.length:Int) 1000≤m)=>ih (k+1) ((k:Int)+1) (n+m) hs' (by omega) (by simp) (by omega) (by omega) (by omega) (by
    intro q hq
    rw[List.take_add_one,hg']at hq
    rcases List.mem_append.1 hq with hq | hq
    ·have:=hm q hq;omega
    ·simp at hq;subst hq;omega)
   have hw:=fun m (h1:0≤m) (h2:m≤1000)=>IntWalk.i64_in (n+m) (by omega)
   clear ih hQ hend hl hm
   simp[af,ah,ad,ae,ab, *,dI,hx.r,hx.idx]
   rw[hw _ (by repeat' split<;>omega) (by repeat' split<;>omega)]
   exact hih _ (by repeat' split<;>omega) (by repeat' split<;>omega) (by repeat' split<;>omega)
  ·have hk2:k=300:=by omega
   subst hk2
   have hQ':=hend n hm
   have hkl2:300<l.length:=by omega
   have hkl3:(300:Int)<l.length:=by omega
   clear ih hQ hend hl hm
   cases gg<;>by_cases hmo:most<l.length<;>simp[af,ah,ad,ae,ab, *,dI,hx.r,hu.r,hq.r]
   all_goals simpa [hmo] using hQ'
theorem HV : ∃t:Bool,limf env 13 [.agg [xu,xq,aI gr],x,aI most]=some (aB t)∧(t=false→us.length≤100∧qs.length≤100∧(l.length:Int)≤most ∧∀p∈l.take 300,p.1.op.l.length≤300):=by
 have h : ∃y,limf env 13 [.agg [xu,xq,aI gr],x,aI most]=some y ∧∃t:Bool,y=aB t∧(t=false→us.length≤100∧qs.length≤100∧(l.length:Int)≤most ∧∀p∈l.take 300,p.1.op.l.length≤300):=by
  refine Dc (fn:=Tryz.f13) (c:=gk) (by kernel_rfl) (by kernel_rfl) (by kernel_rfl) (by kernel_rfl) (by kernel_rfl) ?_
  refine nM _ _ _ _ _ fun g=>?_
  have hlp:=fun(q:Ref)(H:Heap)(hr:H.get q=some ⟨3,[.agg [xu,xq,aI gr]],false,false⟩)=>Eg (q:=q) (H:=H) (Q:=fun x H =>∃y,pe env 13 x H y ∧∃t:Bool,y=aB t∧(t=false→us.length≤100∧qs.length≤100∧(l.length:Int)≤most ∧∀p∈l.take 300,p.1.op.l.length≤300)) (gr:=gr) hu hq hx hl most hr (fun t ht=>⟨aB t,by simp,t,rfl,ht⟩) l 0 0 0 rfl (by omega) rfl (by simp) (by simp) (by simp) (by simp)
  have key : ∀Q:AV→Heap→Prop,(∀(q:Ref)(H:Heap),H.get q=some ⟨3,[.agg [xu,xq,aI gr]],false,false⟩→GoL env Tryz.f13 0 cT [(8,aI 0),(1,x),(7,aI 0),(2,aI most),(3,.ptr q 0 0)] H Q)→gm g (.agg [xu,xq,aI gr]) x (aI most) [] Q:=by
   intro Q h
   clear hlp
   simp[af,ah,ad,ae,ab, *,gm,hu.r,hq.r]
  exact key _ hlp
 obtain⟨y,h1,t,rfl,h2⟩:=h
 exact⟨t,h1,h2⟩
end
end Go.Proofs.YtmkmimgokagimaaGreat
