/-
  Records of two lists compared. No statement of a seat is proved here.
-/
import Derived.Test.YtiidajnodhkidaaGreatLogScan
set_option linter.unusedVariables false
set_option linter.unusedSimpArgs false
set_option linter.unusedSectionVars false
set_option linter.unnecessarySimpa false
set_option maxRecDepth 100000
namespace Go.Proofs.YtiidajnodhkidaaGreat
open Go.Ab
attribute [local simp] ct bK bO bN keep thr cC bD bP eE eD cN cB aV dk List.take_of_length_le
theorem Sz(a_1:UInt8)(a_2:UInt8)(a_3:UInt32)(a_4:UInt8)(a_5:Int)(a_6:UInt8)(a_7:UInt32)(a_8:UInt8)(a_9:Int)(a_10:Int)(a_11:UInt8)(a_12:UInt32)(a_13:UInt8)(a_14:Int)(a_15:UInt8)(a_16:UInt32)(b_1:UInt8)(b_2:UInt8)(b_3:UInt32)(b_4:UInt8)(b_5:Int)(b_6:UInt8)(b_7:UInt32)(b_8:UInt8)(b_9:Int)(b_10:Int)(b_11:UInt8)(b_12:UInt32)(b_13:UInt8)(b_14:Int)(b_15:UInt8)(b_16:UInt32){x y:AV}{l m:List Int}(hx:Sl 1 (rows l) x)(hy:Sl 1 (rows m) y)(hl:l.length<1000000000)(hm:m.length<1000000000):limf env 85 [.agg [a8 a_1,a8 a_2,a32 a_3,a8 a_4,aI a_5,a8 a_6,a32 a_7,a8 a_8,aI a_9,aI a_10,a8 a_11,a32 a_12,a8 a_13,aI a_14,a8 a_15,a32 a_16,x],.agg [a8 b_1,a8 b_2,a32 b_3,a8 b_4,aI b_5,a8 b_6,a32 b_7,a8 b_8,aI b_9,aI b_10,a8 b_11,a32 b_12,a8 b_13,aI b_14,a8 b_15,a32 b_16,y]]=some (aB (yY (⟨a_1,⟨a_2,a_3,a_4⟩,a_5,⟨⟨⟨a_6,a_7,a_8⟩,a_9⟩,a_10⟩,⟨⟨a_11,a_12,a_13⟩,a_14⟩,⟨a_15,a_16⟩,l⟩:Opn) (⟨b_1,⟨b_2,b_3,b_4⟩,b_5,⟨⟨⟨b_6,b_7,b_8⟩,b_9⟩,b_10⟩,⟨⟨b_11,b_12,b_13⟩,b_14⟩,⟨b_15,b_16⟩,m⟩:Opn))):=by
 refine aH (fn:=Tryz.f85) (c:=kO) rfl (by kernel_rfl) (by kernel_rfl) (by kernel_rfl) (by kernel_rfl) ?_;refine pq _ _ _ _ fun g=>?_
 have hq:=LA hx hy (by omega)
 have hr:=hx.r
 have hr2:=hy.r
 unfold yY
 cases c1:decide (a_1=b_1) with
 | false=>simp[af,ah,ad,ae,aa, *,c9,eqA,eqFs]
 | true =>
 cases c2:(decide (a_2=b_2)&&decide (a_3=b_3)&&decide (a_4=b_4)) with
 | false=>simp[af,ah,ad,ae,aa, *,c9,eqA,eqFs]
 | true =>
 cases c3:decide (a_5=b_5) with
 | false=>simp[af,ah,ad,ae,aa, *,c9,eqA,eqFs]
 | true =>
 cases c4:(decide (a_6=b_6)&&decide (a_7=b_7)&&decide (a_8=b_8)&&decide (a_9=b_9)&&decide (a_10=b_10)) with
 | false=>simp[af,ah,ad,ae,aa, *,c9,eqA,eqFs]
 | true =>
 cases c5:(decide (a_11=b_11)&&decide (a_12=b_12)&&decide (a_13=b_13)&&decide (a_14=b_14)) with
 | false=>simp[af,ah,ad,ae,aa, *,c9,eqA,eqFs]
 | true =>
 cases c6:(decide (a_15=b_15)&&decide (a_16=b_16)) with
 | false=>simp[af,ah,ad,ae,aa, *,c9,eqA,eqFs]
 | true=>simp[af,ah,ad,ae,aa, *,c9,eqA,eqFs]
theorem O1(k1 k2:UInt8)(u1 u2:Int)(a_1:UInt8)(a_2:UInt8)(a_3:UInt32)(a_4:UInt8)(a_5:Int)(a_6:UInt8)(a_7:UInt32)(a_8:UInt8)(a_9:Int)(a_10:Int)(a_11:UInt8)(a_12:UInt32)(a_13:UInt8)(a_14:Int)(a_15:UInt8)(a_16:UInt32)(b_1:UInt8)(b_2:UInt8)(b_3:UInt32)(b_4:UInt8)(b_5:Int)(b_6:UInt8)(b_7:UInt32)(b_8:UInt8)(b_9:Int)(b_10:Int)(b_11:UInt8)(b_12:UInt32)(b_13:UInt8)(b_14:Int)(b_15:UInt8)(b_16:UInt32)(c1 c2 g1 g2:Int)(v1 v2:UInt8)(w1 w2:UInt32)(o1 o2:Bool){x y:AV}{l m:List Int}(hx:Sl 1 (rows l) x)(hy:Sl 1 (rows m) y)(hl:l.length<1000000000)(hm:m.length<1000000000) :
 limf env 52 [.agg [a8 k1,aI u1,a8 a_1,a8 a_2,a32 a_3,a8 a_4,aI a_5,a8 a_6,a32 a_7,a8 a_8,aI a_9,aI a_10,a8 a_11,a32 a_12,a8 a_13,aI a_14,a8 a_15,a32 a_16,x,aI c1,aI g1,a8 v1,a32 w1,aB o1],.agg [a8 k2,aI u2,a8 b_1,a8 b_2,a32 b_3,a8 b_4,aI b_5,a8 b_6,a32 b_7,a8 b_8,aI b_9,aI b_10,a8 b_11,a32 b_12,a8 b_13,aI b_14,a8 b_15,a32 b_16,y,aI c2,aI g2,a8 v2,a32 w2,aB o2]] =
  some (aB (mh ⟨k1,u1,(⟨a_1,⟨a_2,a_3,a_4⟩,a_5,⟨⟨⟨a_6,a_7,a_8⟩,a_9⟩,a_10⟩,⟨⟨a_11,a_12,a_13⟩,a_14⟩,⟨a_15,a_16⟩,l⟩:Opn),c1,g1,v1,w1,o1⟩ ⟨k2,u2,(⟨b_1,⟨b_2,b_3,b_4⟩,b_5,⟨⟨⟨b_6,b_7,b_8⟩,b_9⟩,b_10⟩,⟨⟨b_11,b_12,b_13⟩,b_14⟩,⟨b_15,b_16⟩,m⟩:Opn),c2,g2,v2,w2,o2⟩)):=by
 refine aH (fn:=Tryz.f52) (c:=kN) rfl (by kernel_rfl) (by kernel_rfl) (by kernel_rfl) (by kernel_rfl) ?_;refine po _ _ _ _ fun g=>?_
 have hq:=Sz a_1 a_2 a_3 a_4 a_5 a_6 a_7 a_8 a_9 a_10 a_11 a_12 a_13 a_14 a_15 a_16 b_1 b_2 b_3 b_4 b_5 b_6 b_7 b_8 b_9 b_10 b_11 b_12 b_13 b_14 b_15 b_16 hx hy hl hm
 have hr:=hx.r
 have hr2:=hy.r
 unfold mh
 cases e1:decide (k1=k2) with
 | false=>simp[af,ah,ad,ae,aa, *,dR,eqA,eqFs]
 | true =>
 cases e2:decide (u1=u2) with
 | false=>simp[af,ah,ad,ae,aa, *,dR,eqA,eqFs]
 | true =>
 cases e3:yY (⟨a_1,⟨a_2,a_3,a_4⟩,a_5,⟨⟨⟨a_6,a_7,a_8⟩,a_9⟩,a_10⟩,⟨⟨a_11,a_12,a_13⟩,a_14⟩,⟨a_15,a_16⟩,l⟩:Opn) (⟨b_1,⟨b_2,b_3,b_4⟩,b_5,⟨⟨⟨b_6,b_7,b_8⟩,b_9⟩,b_10⟩,⟨⟨b_11,b_12,b_13⟩,b_14⟩,⟨b_15,b_16⟩,m⟩:Opn) with
 | false=>simp[af,ah,ad,ae,aa, *,dR,eqA,eqFs]
 | true =>
 cases e4:decide (c1=c2) with
 | false=>simp[af,ah,ad,ae,aa, *,dR,eqA,eqFs]
 | true=>simp[af,ah,ad,ae,aa, *,dR,eqA,eqFs]
def okRc(p:Rcd × AV):Prop:=Sl 1 (rows p.1.op.l) p.2∧p.1.op.l.length<1000000
def bG(l:List (Rcd × AV)):List AV:=l.map fun p=>p.1.val p.2
@[simp] theorem gD(l:List (Rcd × AV)):(bG l).length=l.length:=by simp[bG]
def rcs(l:List (Rcd × AV)):List Rcd:=l.map (·.1)
@[simp] theorem xv(l:List (Rcd × AV)):(rcs l).length=l.length:=by simp[rcs]
theorem IH(a b:Rcd):mh a b=true↔a=b:=⟨wI,fun h=>by rw[h];exact GR b⟩
theorem WK{p q:Rcd × AV}(hp:okRc p)(hq:okRc q):limf env 52 [p.1.val p.2,q.1.val q.2]=some (aB (mh p.1 q.1)):=by
 obtain⟨⟨k,u,⟨a_1,⟨a_2,a_3,a_4⟩,a_5,⟨⟨⟨a_6,a_7,a_8⟩,a_9⟩,a_10⟩,⟨⟨a_11,a_12,a_13⟩,a_14⟩,⟨a_15,a_16⟩,l⟩,c,g,v,w,o⟩,x⟩:=p
 obtain⟨⟨k',u',⟨b_1,⟨b_2,b_3,b_4⟩,b_5,⟨⟨⟨b_6,b_7,b_8⟩,b_9⟩,b_10⟩,⟨⟨b_11,b_12,b_13⟩,b_14⟩,⟨b_15,b_16⟩,m⟩,c',g',v',w',o'⟩,y⟩:=q
 exact O1 k k' u u' a_1 a_2 a_3 a_4 a_5 a_6 a_7 a_8 a_9 a_10 a_11 a_12 a_13 a_14 a_15 a_16 b_1 b_2 b_3 b_4 b_5 b_6 b_7 b_8 b_9 b_10 b_11 b_12 b_13 b_14 b_15 b_16 c c' g g' v v' w w' o o' hp.1 hq.1 (by have:=hp.2;simp at this;omega) (by have:=hq.2;simp at this;omega)
def lK:List Rcd→List Rcd→Bool
 | [],[]=>true
 | a :: l,b :: m=>mh a b&&lK l m
 | _,_=>false
theorem xk : ∀(l m:List Rcd),lK l m=true↔l=m:=by
 intro l
 induction l with
 | nil=>intro m;cases m<;>simp[lK]
 | cons a l ih=>intro m;cases m with
  | nil=>simp[lK]
  | cons b m=>simp[lK,IH,ih]
theorem rp(l:List Rcd):lK l l=true:=(xk l l).2 rfl
theorem CG{l m:List Rcd}(h:l.length≠m.length):lK l m=false:=by
 cases e:lK l m with
 | false=>rfl
 | true=>exact absurd (congrArg List.length ((xk l m).1 e)) h
section
variable{l m:List (Rcd × AV)}{x y:AV}(hx:Sl 24 (bG l) x)(hy:Sl 24 (bG m) y)(hl : ∀p∈l,okRc p)(hm : ∀p∈m,okRc p)(hbig:l.length<1000000)
include hx hy hl hm hbig
theorem CH(hlm:l.length=m.length){Q:AV→Heap→Prop}{H:Heap} : ∀(s t:List (Rcd × AV)) (k:Nat) (i:Int),l.drop k=s→m.drop k=t→k≤l.length→i=k→(Q (aB (lK (rcs s) (rcs t))) H) →
 GoL env Tryz.f21 0 eF [(5,aI i),(1,y),(0,x)] H Q:=by
 intro s
 induction s with
 | nil =>
  rintro t k i hs ht hk rfl hQ
  obtain rfl:=drop_nil hs hk
  rw[hlm,List.drop_length]at ht
  subst ht
  refine iZ _ _ _ _ _ fun g=>?_
  simp[af,ah,ad,ae,aa, *,eG,hx.r]
  all_goals simpa [rcs,lK] using hQ
 | cons p s ih =>
  rintro t k i hs ht hk rfl hQ
  obtain⟨hlt,hg,hs',hg'⟩:=drop_cons hs
  have hlt2:k<m.length:=by omega
  obtain⟨q,t',rfl⟩ : ∃q t',t=q :: t':=by
   cases t with
   | nil=>have:=congrArg List.length ht;simp at this;omega
   | cons q t'=>exact⟨q,t',rfl⟩
  obtain⟨_,hgm,ht',hgm'⟩:=drop_cons ht
  have hpx:=hl p (hg ▸ List.getElem_mem _)
  have hpy:=hm q (hgm ▸ List.getElem_mem _)
  have hq:=WK hpx hpy
  have e3:=IntWalk.i64_in ((k:Int)+1) (by omega)
  have hih:=ih t' (k+1) ((k:Int)+1) hs' ht' (by omega) (by simp)
  have hr1:=hpx.1.r
  have hr2:=hpy.1.r
  have hrd1:ee (bG l) k 0 24 true=some (p.1.val p.2):=by simp[bG,hg',Rcd.val]
  have hrd2:ee (bG m) k 0 24 true=some (q.1.val q.2):=by simp[bG,hgm',Rcd.val]
  have hQ':Q (aB (mh p.1 q.1&&lK (rcs s) (rcs t'))) H:=hQ
  clear ih hQ hl hm
  unfold Rcd.val at hq hrd1 hrd2
  generalize mh p.1 q.1=e at *
  refine iZ _ _ _ _ _ fun g=>?_
  cases e with
  | false=>simp[af,ah,ad,ae,aa, *,eG,hx.r,hx.idx,hy.r,hy.idx];simpa using hQ'
  | true =>
   rw[Bool.true_and]at hQ'
   have hih':=hih hQ'
   clear hih hQ'
   simp[af,ah,ad,ae,aa, *,eG,hx.r,hx.idx,hy.r,hy.idx]
theorem CJ:limf env 21 [x,y]=some (aB (lK (rcs l) (rcs m))):=by
 refine aH (fn:=Tryz.f21) (c:=gw) rfl (by kernel_rfl) (by kernel_rfl) (by kernel_rfl) (by kernel_rfl) ?_;refine nN _ _ _ _ fun g=>?_
 by_cases hlm:l.length=m.length
 ·have h:=CH hx hy hl hm hbig hlm (Q:=fun v H=>ia env 21 v H (aB (lK (rcs l) (rcs m)))) (H:=[]) l m 0 0 rfl rfl (by omega) rfl (by simp)
  have h1:=hx.r
  have h2:=hy.r
  rw[gD]at h1 h2
  rw[hlm]at h1
  clear hl hm
  simp[af,ah,ad,ae,aa, *,gx]
  exact h
 ·have hne : ¬(l.length:Int)=m.length:=by omega
  rw[CG (by simpa using hlm)]
  clear hl hm
  simp[af,ah,ad,ae,aa, *,gx,hx.r,hy.r]
end
section
variable{l:List (Rcd × AV)}{x:AV}(hx:Sl 24 (bG l) x)(hl : ∀p∈l,Sl 1 (rows p.1.op.l) p.2)(most:Int)
include hx hl
theorem JN{Q:AV→Heap→Prop}{H:Heap}(hQ : ∀t:Bool,(t=false→(∀p∈l.take 200,p.1.op.l.length≤200)∧(l.length:Int)≤most)→Q (aB t) H) : ∀(s:List (Rcd × AV)) (k:Nat) (i:Int),l.drop k=s→k≤l.length→i=k →
 (∀p∈l.take k,p.1.op.l.length≤200)→k≤200→GoL env Tryz.f37 0 fl [(5,aI i),(0,x),(1,aI most)] H Q:=by
 intro s
 induction s with
 | nil =>
  rintro k i hs hk rfl hd h2
  obtain rfl:=drop_nil hs hk
  refine jA _ _ _ _ _ fun g=>?_
  rw[List.take_length]at hd
  have hQ':=hQ (decide (most<l.length)) (fun h=>⟨fun p hp=>hd p (List.mem_of_mem_take hp),by simpa using h⟩)
  clear hQ hl hd
  simp[af,ah,ad,ae,aa, *,ei,hx.r]
  all_goals exact hQ'
 | cons p s ih =>
  rintro k i hs hk rfl hd h2
  obtain⟨hlt,hg,hs',hg'⟩:=drop_cons hs
  have hpx:=(hl p (hg ▸ List.getElem_mem _)).r
  have e3:=IntWalk.i64_in ((k:Int)+1) (by omega)
  refine jA _ _ _ _ _ fun g=>?_
  have hkl:(k:Int)<l.length:=by omega
  by_cases h200:k<200
  ·have h200':(k:Int)<200:=by omega
   have hrd1:ee (bG l) k 18 1 false=some p.2:=by simp[bG,hg',Rcd.val]
   by_cases hbig:p.1.op.l.length≤200
   ·have hih:=ih (k+1) ((k:Int)+1) hs' (by omega) (by simp) (by
     intro q hq
     rw[List.take_add_one,hg']at hq
     rcases List.mem_append.1 hq with hq | hq
     ·exact hd q hq
     ·simp at hq;subst hq;exact hbig) (by omega)
    have hb' : ¬(200:Int)<p.1.op.l.length:=by omega
    clear ih hQ hl hd
    simp[af,ah,ad,ae,aa, *,ei,hx.r,hx.idx]
   ·have hQ':=hQ true (by simp)
    have hb':(200:Int)<p.1.op.l.length:=by omega
    clear ih hQ hl hd
    simp[af,ah,ad,ae,aa, *,ei,hx.r,hx.idx]
    all_goals exact hQ'
  ·have hk2:k=200:=by omega
   subst hk2
   have hQ':=hQ (decide (most<l.length)) (fun h=>⟨hd,by simpa using h⟩)
   have hkl':(200:Int)<l.length:=by omega
   have hkl2:200<l.length:=by omega
   clear ih hQ hl hd
   simp[af,ah,ad,ae,aa, *,ei,hx.r]
   all_goals exact hQ'
theorem NA : ∃t:Bool,limf env 37 [x,aI most]=some (aB t)∧(t=false→(∀p∈l.take 200,p.1.op.l.length≤200)∧(l.length:Int)≤most):=by
 have h : ∃y,limf env 37 [x,aI most]=some y ∧∃t:Bool,y=aB t∧(t=false→(∀p∈l.take 200,p.1.op.l.length≤200)∧(l.length:Int)≤most):=by
  refine Bz (fn:=Tryz.f37) (c:=iH) (by kernel_rfl) (by kernel_rfl) (by kernel_rfl) (by kernel_rfl) (by kernel_rfl) ?_
  refine pn _ _ _ _ fun g=>?_
  exact JN hx hl most (fun t ht=>⟨aB t,by simp,t,rfl,ht⟩) l 0 0 rfl (by omega) rfl (by simp) (by omega)
 obtain⟨y,h1,t,rfl,h2⟩:=h
 exact⟨t,h1,h2⟩
end
end Go.Proofs.YtiidajnodhkidaaGreat
