/-
  Stores: what the smaller functions answer. No statement of a seat is proved here.
-/
import Derived.Test.YtiidajnodhkidaaGreatMSlotLaw
import Derived.Test.YtiidajnodhkidaaGreatStVc10
set_option linter.unusedVariables false
set_option linter.unusedSimpArgs false
set_option linter.unusedSectionVars false
set_option linter.unnecessarySimpa false
set_option maxRecDepth 100000
namespace Go.Proofs.YtiidajnodhkidaaGreat
open Go.Ab
attribute [local simp] cx bP bT bS keep thr cF bH bU eF eE cM cE aY dq List.take_of_length_le
@[simp] theorem Ui(g:Get)(r:Ref):az env.P false g r .cap #[25] [aNil]=some (aI 0,[]):=by kernel_rfl
theorem LN:limf env 80 [aNil,aI 0]=some aNil:=by
 refine aG (fn:=Tryz.f80) (c:=b9) rfl (by kernel_rfl) (by kernel_rfl) (by kernel_rfl) (by kernel_rfl) ?_;refine da _ _ _ _ fun g=>?_
 simp[af,ah,ad,ae,aa, *,ca]
theorem Pf(n:Int)(h0:0<n)(h1:n<100000):limf env 80 [aNil,aI n]=some (.fsl 24 [] none):=by
 refine aG (fn:=Tryz.f80) (c:=b9) rfl (by kernel_rfl) (by kernel_rfl) (by kernel_rfl) (by kernel_rfl) ?_;refine da _ _ _ _ fun g=>?_
 have h2 : ¬n<0:=by omega
 have e1:=IntWalk.i64_in n (by omega)
 have w0:IntKind.i64.wrap 0=0:=rfl
 have h3:n≤140737488355328:=by omega
 have h4:n.toNat≤140737488355328:=by omega
 have h5:0<n.toNat:=by omega
 have hm:=yB (P:=env.P) (t:=25) (t':=3) (by simp) (by simp) (by kernel_rfl) true [] ⟨0,22,0,0⟩ n h0 h3 (by simp;omega)
 simp[af,ah,ad,ae,aa, *,ca, -hm]
 refine Dv hm ?_
 simp
 all_goals omega
theorem SU{a b:List (Rcd × AV)}{xa xb:AV}(ha:Sl 24 (bB a) xa)(hb:Sl 24 (bB b) xb)(la:a.length<10000)(lb:b.length<10000):limf env 50 [.isl 1 [xa,xb] (some 2)]=some (outI 24 (bB (a++b))):=by
 refine aG (fn:=Tryz.f50) (c:=bt) rfl (by kernel_rfl) (by kernel_rfl) (by kernel_rfl) (by kernel_rfl) ?_;refine eJ _ _ _ fun g=>?_
 have hab:bB (a++b)=bB a++bB b:=by simp[bB]
 have hra:=ha.r
 have hrb:=hb.r
 have hea:=ha.mg
 have heb:=hb.mg
 have e1:=IntWalk.i64_in (a.length:Int) (by omega)
 have e2:=IntWalk.i64_in ((a.length:Int)+b.length) (by omega)
 have g0:=LN
 have w0:IntKind.i64.wrap 0=0:=rfl
 have n1 : ¬(a.length:Int)<0:=by omega
 have n2 : ¬(a.length:Int)+b.length<0:=by omega
 rw[hab]
 rw[jf]at hra hrb
 simp[af,ah,ad,ae,aa, *,cW]
 refine bO _ _ _ _ _ _ _ fun g=>?_
 simp[af,ah,ad,ae,aa, *,aW]
 refine bO _ _ _ _ _ _ _ fun g=>?_
 simp[af,ah,ad,ae,aa, *,aW]
 refine bO _ _ _ _ _ _ _ fun g=>?_
 have na : ∀l:List (Rcd × AV),l≠[]→bB l≠[]:=fun l h e=>h (by simpa [bB] using e)
 have la':(bB a).length=a.length:=jf a
 have lb':(bB b).length=b.length:=jf b
 by_cases h0:a=[]∧b=[]
 ·obtain⟨rfl,rfl⟩:=h0
  clear hra hrb la' lb' na n1 n2 e1 e2 hea heb hab la lb
  rcases ha with ⟨rfl,_⟩ | ⟨c,rfl,hc⟩<;>rcases hb with ⟨rfl,_⟩ | ⟨c',rfl,hc'⟩
  all_goals
   simp[af,ah,ad,ae,aa, *,aW,bB]
   refine aV _ _ _ _ _ _ fun g=>?_
   simp[af,ah,ad,ae,aa, *,an]
   refine aV _ _ _ _ _ _ fun g=>?_
   simp[af,ah,ad,ae,aa, *,an]
   refine aV _ _ _ _ _ _ fun g=>?_
   simp[af,ah,ad,ae,aa, *,an,outI]
 ·have hp:0<(a.length:Int)+b.length:=by
   by_cases h1:a=[]
   ·have:b≠[]:=fun h=>h0 ⟨h1,h⟩
    have:=List.length_pos_iff.2 this
    omega
   ·have:=List.length_pos_iff.2 h1
    omega
  have hG:=Pf ((a.length:Int)+b.length) hp (by omega)
  have hne:bB a++bB b≠[]:=by
   intro e
   have:=congrArg List.length e
   rw[List.length_append,la',lb',List.length_nil]at this
   omega
  rw[Bj 24 hne]
  have f1:nm 24 160 0 true none (some ⟨24,[],true,false⟩) (some (bB a)):=by rw[bH];exact⟨rfl,rfl,.inr ⟨by simp;omega,rfl⟩⟩
  have f2:nm 24 160 0 true none (some ⟨24,[],true,false⟩) (some (bB b)):=by rw[bH];exact⟨rfl,rfl,.inr ⟨by simp;omega,rfl⟩⟩
  have f3:nm 24 160 a.length true none (some ⟨24,bB a,true,false⟩) (some (bB b)):=by rw[bH,la'];exact⟨rfl,rfl,.inr ⟨by simp;omega,rfl⟩⟩
  simp[af,ah,ad,ae,aa, *,aW]
  refine aV _ _ _ _ _ _ fun g=>?_
  have step:=fun(H:Heap)(Q:AV→Heap→Prop)(i:Int)(x6:AV)=>aV (aI i) x6 (.isl 1 [xa,xb] (some 2)) (aI 2) H Q
  by_cases ea:a=[]
  ·subst ea
   have eb:b≠[]:=fun h=>h0 ⟨rfl,h⟩
   have nb:=na b eb
   have ea':bB []=[]:=rfl
   rw[ea']at hea hab ⊢
   clear h0 hne hp na hab f1 f3 la'
   simp only[List.length_nil,Int.natCast_zero,Int.zero_add]at *
   generalize bB b=B at *
   simp[af,ah,ad,ae,aa, *,an]
   refine step _ _ _ _ fun g=>?_
   simp[af,ah,ad,ae,aa, *,an]
   refine step _ _ _ _ fun g=>?_
   simp[af,ah,ad,ae,aa, *,an]
  ·have nA:=na a ea
   by_cases eb:b=[]
   ·subst eb
    have eb':bB []=[]:=rfl
    rw[eb']at heb hab ⊢
    clear h0 hne hp na hab f2 f3 lb'
    simp only[List.length_nil,Int.natCast_zero,Int.add_zero,List.append_nil]at *
    generalize bB a=A at *
    simp[af,ah,ad,ae,aa, *,an]
    refine step _ _ _ _ fun g=>?_
    simp[af,ah,ad,ae,aa, *,an]
    refine step _ _ _ _ fun g=>?_
    simp[af,ah,ad,ae,aa, *,an]
   ·have nb:=na b eb
    clear h0 hne hp na hab f2
    generalize bB a=A at *
    generalize bB b=B at *
    simp[af,ah,ad,ae,aa, *,an]
    refine step _ _ _ _ fun g=>?_
    simp[af,ah,ad,ae,aa, *,an]
    refine step _ _ _ _ fun g=>?_
    simp[af,ah,ad,ae,aa, *,an]
theorem IX{s t:Sec}(hs:rO s)(ht:rO t):limf env 86 [.agg [aI s.pos,s.av],.agg [aI t.pos,t.av]]=some (aB (decide (s.pos=t.pos)&&decide (s.bs=t.bs))):=by
 refine aG (fn:=Tryz.f86) (c:=sq) rfl (by kernel_rfl) (by kernel_rfl) (by kernel_rfl) (by kernel_rfl) ?_;refine y0 _ _ _ _ fun g=>?_
 have h:=wL hs ht
 have hsr:=hs.r
 have htr:=ht.r
 by_cases e:s.pos=t.pos
 ·have e':decide (s.pos=t.pos)=true:=decide_eq_true e
  rw[e',Bool.true_and]
  simp[af,ah,ad,ae,aa, *,oy]
 ·have e':decide (s.pos=t.pos)=false:=decide_eq_false e
  rw[e',Bool.false_and]
  simp[af,ah,ad,ae,aa, *,oy]
section
variable{l m:List Sec}{x y:AV}(hx:Sl 2 (encS l) x)(hy:Sl 2 (encS m) y)(hl : ∀s∈l,rO s)(hm : ∀s∈m,rO s)(hbig:l.length<1000000)
include hx hy hl hm hbig
theorem MY(hlm:l.length=m.length){Q:AV→Heap→Prop} : ∀(s t:List Sec)(k:Nat)(i:Int)(H:Heap),l.drop k=s→m.drop k=t→k≤l.length→i=k→Fr H→(∀H',Q (aB (decide (keyS s=keyS t))) H') →
 GoL env Tryz.f88 0 aA [(17,aI i),(2,.fn (.func 86) [] []),(1,y),(15,x),(16,aI l.length)] H Q:=by
 intro s
 induction s with
 | nil =>
  rintro t k i H hs ht hk rfl hF hQ
  obtain rfl:=drop_nil hs hk
  rw[hlm,List.drop_length]at ht
  subst ht
  rw[decide_eq_true rfl]at hQ
  refine aZ _ _ _ _ _ _ _ fun g=>?_
  clear hl hm
  simp[af,ah,ad,ae,aa, *,aD]
 | cons p s ih =>
  rintro t k i H hs ht hk rfl hF hQ
  obtain⟨hlt,hg,hs',hg'⟩:=drop_cons hs
  have hlt2:k<m.length:=by omega
  obtain⟨q,t',rfl⟩ : ∃q t',t=q :: t':=by
   cases t with
   | nil=>have:=congrArg List.length ht;simp at this;omega
   | cons q t'=>exact⟨q,t',rfl⟩
  obtain⟨_,hgm,ht',hgm'⟩:=drop_cons ht
  have hpx:=hl p (hg ▸ List.getElem_mem _)
  have hpy:=hm q (hgm ▸ List.getElem_mem _)
  have hq:=IX hpx hpy
  have e3:=IntWalk.i64_in ((k:Int)+1) (by omega)
  have hih:=fun H'=>ih t' (k+1) ((k:Int)+1) H' hs' ht' (by omega) (by simp)
  have hr1:=hpx.r
  have hr2:=hpy.r
  have hrd1:dV (encS l) k 0 2 true=some (.agg [aI p.pos,p.av]):=by simp[encS,hg',Sec.enc]
  have hrd2:dV (encS m) k 0 2 true=some (.agg [aI q.pos,q.av]):=by simp[encS,hgm',Sec.enc]
  have hkl:(k:Int)<m.length:=by omega
  have hkl2:(k:Int)<l.length:=by omega
  have hk:keyS (p :: s)=(p.pos,p.bs) :: keyS s:=rfl
  have hk2:keyS (q :: t')=(q.pos,q.bs) :: keyS t':=rfl
  rw[hk,hk2]at hQ
  clear ih hl hm hk hk2
  refine aZ _ _ _ _ _ _ _ fun g=>?_
  by_cases he:p.pos=q.pos∧p.bs=q.bs
  ·have e1:(decide (p.pos=q.pos)&&decide (p.bs=q.bs))=true:=by simp[he]
   have hih':=fun H' hF'=>hih H' hF' (fun H''=>by have:=hQ H'';simpa [he] using this)
   rw[e1]at hq
   clear hih hQ he e1
   rw[hlm]at hih'
   simp[af,ah,ad,ae,aa, *,aD,hx.idx,hy.idx]
   exact hih' _ (by simp(maxDischargeDepth:=12) [Heap.aj,aw,aq,Fr.nil,aK,af,ah,ad,ae,ay,ao,aa, *])
  ·have e1:(decide (p.pos=q.pos)&&decide (p.bs=q.bs))=false:=by
    by_cases h1:p.pos=q.pos
    ·have h2 : ¬p.bs=q.bs:=fun h=>he ⟨h1,h⟩
     simp[h1,h2]
    ·simp[h1]
   have hQ' : ∀H',Q (aB false) H':=fun H'=>by
    have:=hQ H'
    rw[decide_eq_false (fun h=>he (by simpa using (List.cons.inj h).1))]at this
    exact this
   rw[e1]at hq
   clear hih hQ he e1
   simp[af,ah,ad,ae,aa, *,aD,hx.idx,hy.idx]
theorem W0:limf env 88 [x,y,.fn (.func 86) [] []]=some (aB (decide (keyS l=keyS m))):=by
 refine aG (fn:=Tryz.f88) (c:=aN) rfl (by kernel_rfl) (by kernel_rfl) (by kernel_rfl) (by kernel_rfl) ?_;refine ct _ _ _ _ _ fun g=>?_
 have h1:=hx.r
 have h2:=hy.r
 rw[wU]at h1 h2
 by_cases hlm:l.length=m.length
 ·have h:=MY hx hy hl hm hbig hlm (Q:=fun v H=>gX env 88 v H (aB (decide (keyS l=keyS m)))) l m 0 0 [] rfl rfl (by omega) rfl (by simp(maxDischargeDepth:=12) [aw,aq,Fr.nil,aK,af,ah,ad,ae,ay,ao,aa, *]) (fun H'=>by simp)
  rw[hlm]at h h1
  clear hl hm
  simp[af,ah,ad,ae,aa, *,aP]
  exact h
 ·have hne : ¬(l.length:Int)=m.length:=by omega
  have hk:decide (keyS l=keyS m)=false:=decide_eq_false fun h=>hlm (by have:=congrArg List.length h;simpa [keyS] using this)
  rw[hk]
  clear hl hm
  simp[af,ah,ad,ae,aa, *,aP]
end
theorem Pk{d e:Dk}(hd:d.Fit)(he:e.Fit):limf env 53 [d.val,e.val]=some (aB (decide (keyS d.l=keyS e.l)&&(decide (d.st=e.st)&&(decide (d.lf=e.lf)&&decide (d.dd=e.dd))))):=by
 refine aG (fn:=Tryz.f53) (c:=vT) rfl (by kernel_rfl) (by kernel_rfl) (by kernel_rfl) (by kernel_rfl) ?_;refine Cz _ _ _ _ fun g=>?_
 have h:=W0 hd.sl he.sl hd.ok he.ok (by have:=hd.len;omega)
 have h1:=hd.sl.r
 have h2:=he.sl.r
 clear hd he
 obtain⟨l,x,st,lf,dd⟩:=d
 obtain⟨m,y,st',lf',dd'⟩:=e
 simp only[Dk.val,dsk]at *
 generalize decide (keyS l=keyS m)=kb at *
 cases kb with
 | false=>simp[af,ah,ad,ae,aa, *,lQ]
 | true =>
 by_cases e1:st=st'
 ·subst e1
  by_cases e2:lf=lf'
  ·subst e2
   cases dd<;>cases dd'<;>simp[af,ah,ad,ae,aa, *,lQ]
  ·simp[af,ah,ad,ae,aa, *,lQ]
 ·simp[af,ah,ad,ae,aa, *,lQ]
theorem Pb{p q:Rcd × AV}(hp:okRc p)(hq:okRc q):limf env 55 [p.1.val p.2,q.1.val q.2]=some (aB (lZ p.1 q.1)):=by
 obtain⟨⟨k,u,⟨a_1,⟨a_2,a_3,a_4⟩,a_5,⟨⟨⟨a_6,a_7,a_8⟩,a_9⟩,a_10⟩,⟨⟨a_11,a_12,a_13⟩,a_14⟩,⟨a_15,a_16⟩,l⟩,c,g,v,w,o⟩,x⟩:=p
 obtain⟨⟨k',u',⟨b_1,⟨b_2,b_3,b_4⟩,b_5,⟨⟨⟨b_6,b_7,b_8⟩,b_9⟩,b_10⟩,⟨⟨b_11,b_12,b_13⟩,b_14⟩,⟨b_15,b_16⟩,m⟩,c',g',v',w',o'⟩,y⟩:=q
 exact CN k k' u u' a_1 a_2 a_3 a_4 a_5 a_6 a_7 a_8 a_9 a_10 a_11 a_12 a_13 a_14 a_15 a_16 b_1 b_2 b_3 b_4 b_5 b_6 b_7 b_8 b_9 b_10 b_11 b_12 b_13 b_14 b_15 b_16 c c' g g' v v' w w' o o' hp.1 hq.1 (by have:=hp.2;simp at this;omega)
section
variable{l m:List (Rcd × AV)}{x y:AV}(hx:Sl 24 (bB l) x)(hy:Sl 24 (bB m) y)(hl : ∀p∈l,okRc p)(hm : ∀p∈m,okRc p)(hbig:l.length<1000000)
include hx hy hl hm hbig
theorem MZ(hlm:l.length=m.length){Q:AV→Heap→Prop} : ∀(s t:List (Rcd × AV)) (k:Nat) (i:Int) (H:Heap),l.drop k=s→m.drop k=t→k≤l.length→i=k→Fr H→(∀H',Q (aB (kp (rcs s) (rcs t))) H') →
 GoL env Tryz.f54 0 aC [(17,aI i),(2,.fn (.func 55) [] []),(1,y),(15,x),(16,aI l.length)] H Q:=by
 intro s
 induction s with
 | nil =>
  rintro t k i H hs ht hk rfl hF hQ
  obtain rfl:=drop_nil hs hk
  rw[hlm,List.drop_length]at ht
  subst ht
  refine a9 _ _ _ _ _ _ _ fun g=>?_
  simp only[rcs,List.map_nil,kp]at hQ
  clear hl hm
  simp[af,ah,ad,ae,aa, *,aE]
 | cons p s ih =>
  rintro t k i H hs ht hk rfl hF hQ
  obtain⟨hlt,hg,hs',hg'⟩:=drop_cons hs
  have hlt2:k<m.length:=by omega
  obtain⟨q,t',rfl⟩ : ∃q t',t=q :: t':=by
   cases t with
   | nil=>have:=congrArg List.length ht;simp at this;omega
   | cons q t'=>exact⟨q,t',rfl⟩
  obtain⟨_,hgm,ht',hgm'⟩:=drop_cons ht
  have hpx:=hl p (hg ▸ List.getElem_mem _)
  have hpy:=hm q (hgm ▸ List.getElem_mem _)
  have hq:=Pb hpx hpy
  have e3:=IntWalk.i64_in ((k:Int)+1) (by omega)
  have hih:=fun H'=>ih t' (k+1) ((k:Int)+1) H' hs' ht' (by omega) (by simp)
  have hr1:=hpx.1.r
  have hr2:=hpy.1.r
  have hrd1:dV (bB l) k 0 24 true=some (p.1.val p.2):=by simp[bB,hg',Rcd.val]
  have hrd2:dV (bB m) k 0 24 true=some (q.1.val q.2):=by simp[bB,hgm',Rcd.val]
  have hkl:(k:Int)<m.length:=by omega
  have hkl2:(k:Int)<l.length:=by omega
  have hQ2 : ∀H',Q (aB (lZ p.1 q.1&&kp (rcs s) (rcs t'))) H':=hQ
  clear ih hl hm hQ hpx hpy
  unfold Rcd.val at hq hrd1 hrd2
  generalize lZ p.1 q.1=e at *
  refine a9 _ _ _ _ _ _ _ fun g=>?_
  cases e with
  | true =>
   have hih':=fun H' hF'=>hih H' hF' (fun H''=>by have:=hQ2 H'';rw[Bool.true_and]at this;exact this)
   clear hih hQ2
   rw[hlm]at hih'
   simp[af,ah,ad,ae,aa, *,aE,hx.idx,hy.idx]
   exact hih' _ (by simp(maxDischargeDepth:=12) [Heap.aj,aw,aq,Fr.nil,aK,af,ah,ad,ae,ay,ao,aa, *])
  | false =>
   simp only[Bool.false_and]at hQ2
   clear hih
   simp[af,ah,ad,ae,aa, *,aE,hx.idx,hy.idx]
theorem W4:limf env 54 [x,y,.fn (.func 55) [] []]=some (aB (kp (rcs l) (rcs m))):=by
 refine aG (fn:=Tryz.f54) (c:=aO) rfl (by kernel_rfl) (by kernel_rfl) (by kernel_rfl) (by kernel_rfl) ?_;refine cu _ _ _ _ _ fun g=>?_
 have h1:=hx.r
 have h2:=hy.r
 rw[jf]at h1 h2
 by_cases hlm:l.length=m.length
 ·have h:=MZ hx hy hl hm hbig hlm (Q:=fun v H=>gX env 54 v H (aB (kp (rcs l) (rcs m)))) l m 0 0 [] rfl rfl (by omega) rfl (by simp(maxDischargeDepth:=12) [aw,aq,Fr.nil,aK,af,ah,ad,ae,ay,ao,aa, *]) (fun H'=>by simp)
  rw[hlm]at h h1
  clear hl hm
  simp[af,ah,ad,ae,aa, *,aQ]
  exact h
 ·have hne : ¬(l.length:Int)=m.length:=by omega
  rw[CJ (by simpa using hlm)]
  clear hl hm
  simp[af,ah,ad,ae,aa, *,aQ]
end
def PY(d:Dk)(many:Int)(h:Hd):Bool:=decide (d.st<h.st)||(decide (many+1<h.nu)||(decide (h.nu=many+1)&&(decide (h.st=d.st) && !d.dd)))
def oddB(d:Dk)(many:Int)(s:Sec):Bool:=decide (s.pos<2048)&&(kA s.bs&&PY d many (hdOf s.bs))
theorem II{d:Dk}(hf:d.Fit){many:Int}(hmn:0≤many∧many<100000000){s:Sec}(hs:rO s):limf env 75 [.agg [aI s.pos,s.av],.iptr 4 [d.val] 0 0,.iptr 1 [aI many] 0 0]=some (aB (oddB d many s)):=by
 refine aG (fn:=Tryz.f75) (c:=pU) rfl (by kernel_rfl) (by kernel_rfl) (by kernel_rfl) (by kernel_rfl) ?_;refine wa _ _ _ _ _ fun g=>?_
 have hh:=xr hs
 have hsr:=hs.r
 have hxv:=hf.sl.r
 have e1:=IntWalk.i64_in (many+1) (by omega)
 unfold oddB PY
 clear hf
 obtain⟨l,x,st,lf,dd⟩:=d
 simp only[Dk.val,dsk]at *
 cases ho:kA s.bs with
 | false =>
  rw[ho,if_neg (by decide)]at hh
  simp only[Bool.false_and,Bool.and_false]
  simp only[Hd.val]at hh
  clear ho
  by_cases c1:st<0
  ·by_cases c4:s.pos<2048<;>simp[af,ah,ad,ae,aa, *,eR]
  ·by_cases c2:many+1<0
   ·omega
   ·by_cases c3:(0:Int)=many+1
    ·omega
    ·by_cases c4:s.pos<2048<;>simp[af,ah,ad,ae,aa, *,eR]
 | true =>
  rw[ho,if_pos rfl]at hh
  simp only[Bool.true_and]
  generalize hdOf s.bs=h at *
  obtain⟨h_1,h_2,h_3,h_4⟩:=h
  simp only[Hd.val]at hh
  simp only
  clear ho
  by_cases c1:st<h_1
  ·by_cases c4:s.pos<2048<;>simp[af,ah,ad,ae,aa, *,eR]
  ·by_cases c2:many+1<h_2
   ·by_cases c4:s.pos<2048<;>simp[af,ah,ad,ae,aa, *,eR]
   ·by_cases c3:h_2=many+1
    ·by_cases c5:h_1=st
     ·by_cases c4:s.pos<2048<;>cases dd<;>simp[af,ah,ad,ae,aa, *,eR]
     ·by_cases c4:s.pos<2048<;>simp[af,ah,ad,ae,aa, *,eR]
    ·by_cases c4:s.pos<2048<;>simp[af,ah,ad,ae,aa, *,eR]
section
variable{d:Dk}(hf:d.Fit){many:Int}(hmn:0≤many∧many<100000000)
include hf hmn
theorem P0{Q:AV→Heap→Prop}{H:Heap} : ∀(s:List Sec)(k:Nat)(i:Int),d.l.drop k=s→k≤d.l.length→i=k→(∀j:Int,(0≤j↔s.any (oddB d many)=true)→Q (aI j) H) →
 GoL env Tryz.f119 0 bk [(8,aI i),(0,d.x),(1,.fn (.func 75) [] [.iptr 4 [d.val] 0 0,.iptr 1 [aI many] 0 0]),(7,aI d.l.length)] H Q:=by
 intro s
 induction s with
 | nil =>
  rintro k i hs hk rfl hQ
  obtain rfl:=drop_nil hs hk
  have hQ':=hQ (-1) (by simp)
  refine cL _ _ _ _ _ _ fun g=>?_
  clear hQ hf
  simp[af,ah,ad,ae,aa, *,bm]
  all_goals exact hQ'
 | cons p s ih =>
  rintro k i hs hk rfl hQ
  obtain⟨hlt,hg,hs',hg'⟩:=drop_cons hs
  have hp:=hf.ok p (hg ▸ List.getElem_mem _)
  have hF:=II hf hmn hp
  have e3:=IntWalk.i64_in ((k:Int)+1) (by have:=hf.len;omega)
  have hrd:dV (encS d.l) k 0 2 true=some (.agg [aI p.pos,p.av]):=by simp[encS,hg',Sec.enc]
  have hkl:(k:Int)<d.l.length:=by omega
  have hsr:=hp.r
  have hxv:=hf.sl.r
  have hsl:=hf.sl
  have hvd : ∀g n,view g (n+2) d.val=some d.val:=by
   intro g n
   have:=hf.sl.r
   obtain⟨l,x,st,lf,dd⟩:=d
   simp only[Dk.val,dsk]at *
   simp[this]
  refine cL _ _ _ _ _ _ fun g=>?_
  cases ho:oddB d many p with
  | true =>
   have hQ':=hQ (k:Int) (by simp[ho])
   rw[ho]at hF
   clear ih hQ ho hf
   obtain⟨l,x,st,lf,dd⟩:=d
   simp only[Dk.val,dsk]at *
   simp[af,ah,ad,ae,aa, *,bm,hsl.idx]
   all_goals exact hQ'
  | false =>
   have hih:=ih (k+1) ((k:Int)+1) hs' (by omega) (by simp) (fun j hj=>hQ j (by simpa [ho] using hj))
   rw[ho]at hF
   clear ih hQ ho hf
   obtain⟨l,x,st,lf,dd⟩:=d
   simp only[Dk.val,dsk]at *
   simp[af,ah,ad,ae,aa, *,bm,hsl.idx]
theorem GR:limf env 77 [d.x,.fn (.func 75) [] [.iptr 4 [d.val] 0 0,.iptr 1 [aI many] 0 0]]=some (aB (d.l.any (oddB d many))):=by
 refine aG (fn:=Tryz.f77) (c:=cG) rfl (by kernel_rfl) (by kernel_rfl) (by kernel_rfl) (by kernel_rfl) ?_;refine dZ _ _ _ _ fun g=>?_
 have hIx : ∃y,limf env 119 [d.x,.fn (.func 75) [] [.iptr 4 [d.val] 0 0,.iptr 1 [aI many] 0 0]]=some y ∧∃j:Int,y=aI j∧(0≤j↔d.l.any (oddB d many)=true):=by
  refine Ga (fn:=Tryz.f119) (c:=bM) (by kernel_rfl) (by kernel_rfl) (by kernel_rfl) (by kernel_rfl) (by kernel_rfl) ?_
  refine ep _ _ _ _ fun g=>?_
  have hl:=P0 hf hmn (Q:=fun x H =>∃y,gX env 119 x H y ∧∃j:Int,y=aI j∧(0≤j↔d.l.any (oddB d many)=true)) (H:=[]) d.l 0 0 rfl (by omega) rfl (fun j hj=>⟨aI j,by simp,j,rfl,hj⟩)
  have hxl:=hf.sl.len
  rw[wU]at hxl
  clear hf
  generalize d.l.any (oddB d many)=b at *
  simp[af,ah,ad,ae,aa, *,cQ]
  exact hl
 obtain⟨y,h1,j,rfl,hj⟩:=hIx
 have hxv:=hf.sl.r
 have hb:d.l.any (oddB d many)=decide (0≤j):=by
  cases h:d.l.any (oddB d many) with
  | true=>rw[h]at hj;exact(decide_eq_true (hj.2 rfl)).symm
  | false=>rw[h]at hj;exact(decide_eq_false (fun h2=>by cases hj.1 h2)).symm
 rw[hb]
 clear hf hj hb
 obtain⟨l,x,st,lf,dd⟩:=d
 simp only[Dk.val,dsk]at *
 simp[af,ah,ad,ae,aa, *,cH]
theorem OV:limf env 48 [d.val,aI many]=some (aB (!d.l.any (oddB d many))):=by
 refine aG (fn:=Tryz.f48) (c:=r9) rfl (by kernel_rfl) (by kernel_rfl) (by kernel_rfl) (by kernel_rfl) ?_;refine yM _ _ _ _ fun g=>?_
 have h:=GR hf hmn
 have hxv:=hf.sl.r
 generalize d.l.any (oddB d many)=b at *
 clear hf
 obtain⟨l,x,st,lf,dd⟩:=d
 simp only[Dk.val,dsk]at *
 simp[af,ah,ad,ae,aa, *,sy]
end
end Go.Proofs.YtiidajnodhkidaaGreat
