/-
  Stores: what the smaller functions answer. No statement of a seat is proved here.
-/
import Derived.Test.YtiidajnodhkidaaGreatMSlotLaw
import Derived.Test.YtiidajnodhkidaaGreatStVc10
set_option linter.unusedVariables false
set_option linter.unusedSimpArgs false
set_option linter.unusedSectionVars false
set_option linter.unnecessarySimpa false
set_option maxRecDepth 100000
namespace Go.Proofs.YtiidajnodhkidaaGreat
open Go.Ab
attribute [local simp] ct bK bO bN keep thr cC bD bP eE eD cN cB aV dk List.take_of_length_le
@[simp] theorem T9(g:Get)(r:Ref):aw env.P false g r .cap #[25] [aNil]=some (aI 0,[]):=by kernel_rfl
theorem LL:limf env 80 [aNil,aI 0]=some aNil:=by
 refine aH (fn:=Tryz.f80) (c:=bX) rfl (by kernel_rfl) (by kernel_rfl) (by kernel_rfl) (by kernel_rfl) ?_;refine dc _ _ _ _ fun g=>?_
 simp[af,ah,ad,ae,aa, *,bY]
theorem O4(n:Int)(h0:0<n)(h1:n<100000):limf env 80 [aNil,aI n]=some (.fsl 24 [] none):=by
 refine aH (fn:=Tryz.f80) (c:=bX) rfl (by kernel_rfl) (by kernel_rfl) (by kernel_rfl) (by kernel_rfl) ?_;refine dc _ _ _ _ fun g=>?_
 have h2 : ¬n<0:=by omega
 have e1:=IntWalk.i64_in n (by omega)
 have w0:IntKind.i64.wrap 0=0:=rfl
 have h3:n≤140737488355328:=by omega
 have h4:n.toNat≤140737488355328:=by omega
 have h5:0<n.toNat:=by omega
 have hm:=yw (P:=env.P) (t:=25) (t':=3) (by simp) (by simp) (by kernel_rfl) true [] ⟨0,22,0,0⟩ n h0 h3 (by simp;omega)
 simp[af,ah,ad,ae,aa, *,bY, -hm]
 refine Ds hm ?_
 simp
 all_goals omega
theorem SF{a b:List (Rcd × AV)}{xa xb:AV}(ha:Sl 24 (bG a) xa)(hb:Sl 24 (bG b) xb)(la:a.length<10000)(lb:b.length<10000):limf env 50 [.isl 1 [xa,xb] (some 2)]=some (outI 24 (bG (a++b))):=by
 refine aH (fn:=Tryz.f50) (c:=bo) rfl (by kernel_rfl) (by kernel_rfl) (by kernel_rfl) (by kernel_rfl) ?_;refine eK _ _ _ fun g=>?_
 have hab:bG (a++b)=bG a++bG b:=by simp[bG]
 have hra:=ha.r
 have hrb:=hb.r
 have hea:=ha.mu
 have heb:=hb.mu
 have e1:=IntWalk.i64_in (a.length:Int) (by omega)
 have e2:=IntWalk.i64_in ((a.length:Int)+b.length) (by omega)
 have g0:=LL
 have w0:IntKind.i64.wrap 0=0:=rfl
 have n1 : ¬(a.length:Int)<0:=by omega
 have n2 : ¬(a.length:Int)+b.length<0:=by omega
 rw[hab]
 rw[gD]at hra hrb
 simp[af,ah,ad,ae,aa, *,cY]
 refine bM _ _ _ _ _ _ _ fun g=>?_
 simp[af,ah,ad,ae,aa, *,aU]
 refine bM _ _ _ _ _ _ _ fun g=>?_
 simp[af,ah,ad,ae,aa, *,aU]
 refine bM _ _ _ _ _ _ _ fun g=>?_
 have na : ∀l:List (Rcd × AV),l≠[]→bG l≠[]:=fun l h e=>h (by simpa [bG] using e)
 have la':(bG a).length=a.length:=gD a
 have lb':(bG b).length=b.length:=gD b
 by_cases h0:a=[]∧b=[]
 ·obtain⟨rfl,rfl⟩:=h0
  clear hra hrb la' lb' na n1 n2 e1 e2 hea heb hab la lb
  rcases ha with ⟨rfl,_⟩ | ⟨c,rfl,hc⟩<;>rcases hb with ⟨rfl,_⟩ | ⟨c',rfl,hc'⟩
  all_goals
   simp[af,ah,ad,ae,aa, *,aU,bG]
   refine aT _ _ _ _ _ _ fun g=>?_
   simp[af,ah,ad,ae,aa, *,an]
   refine aT _ _ _ _ _ _ fun g=>?_
   simp[af,ah,ad,ae,aa, *,an]
   refine aT _ _ _ _ _ _ fun g=>?_
   simp[af,ah,ad,ae,aa, *,an,outI]
 ·have hp:0<(a.length:Int)+b.length:=by
   by_cases h1:a=[]
   ·have:b≠[]:=fun h=>h0 ⟨h1,h⟩
    have:=List.length_pos_iff.2 this
    omega
   ·have:=List.length_pos_iff.2 h1
    omega
  have hG:=O4 ((a.length:Int)+b.length) hp (by omega)
  have hne:bG a++bG b≠[]:=by
   intro e
   have:=congrArg List.length e
   rw[List.length_append,la',lb',List.length_nil]at this
   omega
  rw[Bb 24 hne]
  have f1:oD 24 160 0 true none (some ⟨24,[],true,false⟩) (some (bG a)):=by rw[bD];exact⟨rfl,rfl,.inr ⟨by simp;omega,rfl⟩⟩
  have f2:oD 24 160 0 true none (some ⟨24,[],true,false⟩) (some (bG b)):=by rw[bD];exact⟨rfl,rfl,.inr ⟨by simp;omega,rfl⟩⟩
  have f3:oD 24 160 a.length true none (some ⟨24,bG a,true,false⟩) (some (bG b)):=by rw[bD,la'];exact⟨rfl,rfl,.inr ⟨by simp;omega,rfl⟩⟩
  simp[af,ah,ad,ae,aa, *,aU]
  refine aT _ _ _ _ _ _ fun g=>?_
  have step:=fun(H:Heap)(Q:AV→Heap→Prop)(i:Int)(x6:AV)=>aT (aI i) x6 (.isl 1 [xa,xb] (some 2)) (aI 2) H Q
  by_cases ea:a=[]
  ·subst ea
   have eb:b≠[]:=fun h=>h0 ⟨rfl,h⟩
   have nb:=na b eb
   have ea':bG []=[]:=rfl
   rw[ea']at hea hab ⊢
   clear h0 hne hp na hab f1 f3 la'
   simp only[List.length_nil,Int.natCast_zero,Int.zero_add]at *
   generalize bG b=B at *
   simp[af,ah,ad,ae,aa, *,an]
   refine step _ _ _ _ fun g=>?_
   simp[af,ah,ad,ae,aa, *,an]
   refine step _ _ _ _ fun g=>?_
   simp[af,ah,ad,ae,aa, *,an]
  ·have nA:=na a ea
   by_cases eb:b=[]
   ·subst eb
    have eb':bG []=[]:=rfl
    rw[eb']at heb hab ⊢
    clear h0 hne hp na hab f2 f3 lb'
    simp only[List.length_nil,Int.natCast_zero,Int.add_zero,List.append_nil]at *
    generalize bG a=A at *
    simp[af,ah,ad,ae,aa, *,an]
    refine step _ _ _ _ fun g=>?_
    simp[af,ah,ad,ae,aa, *,an]
    refine step _ _ _ _ fun g=>?_
    simp[af,ah,ad,ae,aa, *,an]
   ·have nb:=na b eb
    clear h0 hne hp na hab f2
    generalize bG a=A at *
    generalize bG b=B at *
    simp[af,ah,ad,ae,aa, *,an]
    refine step _ _ _ _ fun g=>?_
    simp[af,ah,ad,ae,aa, *,an]
    refine step _ _ _ _ fun g=>?_
    simp[af,ah,ad,ae,aa, *,an]
theorem I0{s t:Sec}(hs:oL s)(ht:oL t):limf env 86 [.agg [aI s.pos,s.av],.agg [aI t.pos,t.av]]=some (aB (decide (s.pos=t.pos)&&decide (s.bs=t.bs))):=by
 refine aH (fn:=Tryz.f86) (c:=su) rfl (by kernel_rfl) (by kernel_rfl) (by kernel_rfl) (by kernel_rfl) ?_;refine yU _ _ _ _ fun g=>?_
 have h:=wK hs ht
 have hsr:=hs.r
 have htr:=ht.r
 by_cases e:s.pos=t.pos
 ·have e':decide (s.pos=t.pos)=true:=decide_eq_true e
  rw[e',Bool.true_and]
  simp[af,ah,ad,ae,aa, *,oJ]
 ·have e':decide (s.pos=t.pos)=false:=decide_eq_false e
  rw[e',Bool.false_and]
  simp[af,ah,ad,ae,aa, *,oJ]
section
variable{l m:List Sec}{x y:AV}(hx:Sl 2 (encS l) x)(hy:Sl 2 (encS m) y)(hl : ∀s∈l,oL s)(hm : ∀s∈m,oL s)(hbig:l.length<1000000)
include hx hy hl hm hbig
theorem MV(hlm:l.length=m.length){Q:AV→Heap→Prop} : ∀(s t:List Sec)(k:Nat)(i:Int)(H:Heap),l.drop k=s→m.drop k=t→k≤l.length→i=k→Fr H→(∀H',Q (aB (decide (keyS s=keyS t))) H') →
 GoL env Tryz.f88 0 ay [(17,aI i),(2,.fn (.func 86) [] []),(1,y),(15,x),(16,aI l.length)] H Q:=by
 intro s
 induction s with
 | nil =>
  rintro t k i H hs ht hk rfl hF hQ
  obtain rfl:=drop_nil hs hk
  rw[hlm,List.drop_length]at ht
  subst ht
  rw[decide_eq_true rfl]at hQ
  refine aX _ _ _ _ _ _ _ fun g=>?_
  clear hl hm
  simp[af,ah,ad,ae,aa, *,aA]
 | cons p s ih =>
  rintro t k i H hs ht hk rfl hF hQ
  obtain⟨hlt,hg,hs',hg'⟩:=drop_cons hs
  have hlt2:k<m.length:=by omega
  obtain⟨q,t',rfl⟩ : ∃q t',t=q :: t':=by
   cases t with
   | nil=>have:=congrArg List.length ht;simp at this;omega
   | cons q t'=>exact⟨q,t',rfl⟩
  obtain⟨_,hgm,ht',hgm'⟩:=drop_cons ht
  have hpx:=hl p (hg ▸ List.getElem_mem _)
  have hpy:=hm q (hgm ▸ List.getElem_mem _)
  have hq:=I0 hpx hpy
  have e3:=IntWalk.i64_in ((k:Int)+1) (by omega)
  have hih:=fun H'=>ih t' (k+1) ((k:Int)+1) H' hs' ht' (by omega) (by simp)
  have hr1:=hpx.r
  have hr2:=hpy.r
  have hrd1:ee (encS l) k 0 2 true=some (.agg [aI p.pos,p.av]):=by simp[encS,hg',Sec.enc]
  have hrd2:ee (encS m) k 0 2 true=some (.agg [aI q.pos,q.av]):=by simp[encS,hgm',Sec.enc]
  have hkl:(k:Int)<m.length:=by omega
  have hkl2:(k:Int)<l.length:=by omega
  have hk:keyS (p :: s)=(p.pos,p.bs) :: keyS s:=rfl
  have hk2:keyS (q :: t')=(q.pos,q.bs) :: keyS t':=rfl
  rw[hk,hk2]at hQ
  clear ih hl hm hk hk2
  refine aX _ _ _ _ _ _ _ fun g=>?_
  by_cases he:p.pos=q.pos∧p.bs=q.bs
  ·have e1:(decide (p.pos=q.pos)&&decide (p.bs=q.bs))=true:=by simp[he]
   have hih':=fun H' hF'=>hih H' hF' (fun H''=>by have:=hQ H'';simpa [he] using this)
   rw[e1]at hq
   clear hih hQ he e1
   rw[hlm]at hih'
   simp[af,ah,ad,ae,aa, *,aA,hx.idx,hy.idx]
   exact hih' _ (by simp(maxDischargeDepth:=12) [Heap.aj,aD,ar,Fr.nil,aP,af,ah,ad,ae,aF,aq,aa, *])
  ·have e1:(decide (p.pos=q.pos)&&decide (p.bs=q.bs))=false:=by
    by_cases h1:p.pos=q.pos
    ·have h2 : ¬p.bs=q.bs:=fun h=>he ⟨h1,h⟩
     simp[h1,h2]
    ·simp[h1]
   have hQ' : ∀H',Q (aB false) H':=fun H'=>by
    have:=hQ H'
    rw[decide_eq_false (fun h=>he (by simpa using (List.cons.inj h).1))]at this
    exact this
   rw[e1]at hq
   clear hih hQ he e1
   simp[af,ah,ad,ae,aa, *,aA,hx.idx,hy.idx]
theorem WN:limf env 88 [x,y,.fn (.func 86) [] []]=some (aB (decide (keyS l=keyS m))):=by
 refine aH (fn:=Tryz.f88) (c:=aL) rfl (by kernel_rfl) (by kernel_rfl) (by kernel_rfl) (by kernel_rfl) ?_;refine cm _ _ _ _ _ fun g=>?_
 have h1:=hx.r
 have h2:=hy.r
 rw[wT]at h1 h2
 by_cases hlm:l.length=m.length
 ·have h:=MV hx hy hl hm hbig hlm (Q:=fun v H=>ia env 88 v H (aB (decide (keyS l=keyS m)))) l m 0 0 [] rfl rfl (by omega) rfl (by simp(maxDischargeDepth:=12) [aD,ar,Fr.nil,aP,af,ah,ad,ae,aF,aq,aa, *]) (fun H'=>by simp)
  rw[hlm]at h h1
  clear hl hm
  simp[af,ah,ad,ae,aa, *,aN]
  exact h
 ·have hne : ¬(l.length:Int)=m.length:=by omega
  have hk:decide (keyS l=keyS m)=false:=decide_eq_false fun h=>hlm (by have:=congrArg List.length h;simpa [keyS] using this)
  rw[hk]
  clear hl hm
  simp[af,ah,ad,ae,aa, *,aN]
end
theorem O9{d e:Dk}(hd:d.Fit)(he:e.Fit):limf env 53 [d.val,e.val]=some (aB (decide (keyS d.l=keyS e.l)&&(decide (d.st=e.st)&&(decide (d.lf=e.lf)&&decide (d.dd=e.dd))))):=by
 refine aH (fn:=Tryz.f53) (c:=vT) rfl (by kernel_rfl) (by kernel_rfl) (by kernel_rfl) (by kernel_rfl) ?_;refine Ct _ _ _ _ fun g=>?_
 have h:=WN hd.sl he.sl hd.ok he.ok (by have:=hd.len;omega)
 have h1:=hd.sl.r
 have h2:=he.sl.r
 clear hd he
 obtain⟨l,x,st,lf,dd⟩:=d
 obtain⟨m,y,st',lf',dd'⟩:=e
 simp only[Dk.val,dsk]at *
 generalize decide (keyS l=keyS m)=kb at *
 cases kb with
 | false=>simp[af,ah,ad,ae,aa, *,lV]
 | true =>
 by_cases e1:st=st'
 ·subst e1
  by_cases e2:lf=lf'
  ·subst e2
   cases dd<;>cases dd'<;>simp[af,ah,ad,ae,aa, *,lV]
  ·simp[af,ah,ad,ae,aa, *,lV]
 ·simp[af,ah,ad,ae,aa, *,lV]
theorem O0{p q:Rcd × AV}(hp:okRc p)(hq:okRc q):limf env 55 [p.1.val p.2,q.1.val q.2]=some (aB (mh p.1 q.1)):=by
 obtain⟨⟨k,u,⟨a_1,⟨a_2,a_3,a_4⟩,a_5,⟨⟨⟨a_6,a_7,a_8⟩,a_9⟩,a_10⟩,⟨⟨a_11,a_12,a_13⟩,a_14⟩,⟨a_15,a_16⟩,l⟩,c,g,v,w,o⟩,x⟩:=p
 obtain⟨⟨k',u',⟨b_1,⟨b_2,b_3,b_4⟩,b_5,⟨⟨⟨b_6,b_7,b_8⟩,b_9⟩,b_10⟩,⟨⟨b_11,b_12,b_13⟩,b_14⟩,⟨b_15,b_16⟩,m⟩,c',g',v',w',o'⟩,y⟩:=q
 exact CK k k' u u' a_1 a_2 a_3 a_4 a_5 a_6 a_7 a_8 a_9 a_10 a_11 a_12 a_13 a_14 a_15 a_16 b_1 b_2 b_3 b_4 b_5 b_6 b_7 b_8 b_9 b_10 b_11 b_12 b_13 b_14 b_15 b_16 c c' g g' v v' w w' o o' hp.1 hq.1 (by have:=hp.2;simp at this;omega)
section
variable{l m:List (Rcd × AV)}{x y:AV}(hx:Sl 24 (bG l) x)(hy:Sl 24 (bG m) y)(hl : ∀p∈l,okRc p)(hm : ∀p∈m,okRc p)(hbig:l.length<1000000)
include hx hy hl hm hbig
theorem MW(hlm:l.length=m.length){Q:AV→Heap→Prop} : ∀(s t:List (Rcd × AV)) (k:Nat) (i:Int) (H:Heap),l.drop k=s→m.drop k=t→k≤l.length→i=k→Fr H→(∀H',Q (aB (lK (rcs s) (rcs t))) H') →
 GoL env Tryz.f54 0 az [(17,aI i),(2,.fn (.func 55) [] []),(1,y),(15,x),(16,aI l.length)] H Q:=by
 intro s
 induction s with
 | nil =>
  rintro t k i H hs ht hk rfl hF hQ
  obtain rfl:=drop_nil hs hk
  rw[hlm,List.drop_length]at ht
  subst ht
  refine aY _ _ _ _ _ _ _ fun g=>?_
  simp only[rcs,List.map_nil,lK]at hQ
  clear hl hm
  simp[af,ah,ad,ae,aa, *,aC]
 | cons p s ih =>
  rintro t k i H hs ht hk rfl hF hQ
  obtain⟨hlt,hg,hs',hg'⟩:=drop_cons hs
  have hlt2:k<m.length:=by omega
  obtain⟨q,t',rfl⟩ : ∃q t',t=q :: t':=by
   cases t with
   | nil=>have:=congrArg List.length ht;simp at this;omega
   | cons q t'=>exact⟨q,t',rfl⟩
  obtain⟨_,hgm,ht',hgm'⟩:=drop_cons ht
  have hpx:=hl p (hg ▸ List.getElem_mem _)
  have hpy:=hm q (hgm ▸ List.getElem_mem _)
  have hq:=O0 hpx hpy
  have e3:=IntWalk.i64_in ((k:Int)+1) (by omega)
  have hih:=fun H'=>ih t' (k+1) ((k:Int)+1) H' hs' ht' (by omega) (by simp)
  have hr1:=hpx.1.r
  have hr2:=hpy.1.r
  have hrd1:ee (bG l) k 0 24 true=some (p.1.val p.2):=by simp[bG,hg',Rcd.val]
  have hrd2:ee (bG m) k 0 24 true=some (q.1.val q.2):=by simp[bG,hgm',Rcd.val]
  have hkl:(k:Int)<m.length:=by omega
  have hkl2:(k:Int)<l.length:=by omega
  have hQ2 : ∀H',Q (aB (mh p.1 q.1&&lK (rcs s) (rcs t'))) H':=hQ
  clear ih hl hm hQ hpx hpy
  unfold Rcd.val at hq hrd1 hrd2
  generalize mh p.1 q.1=e at *
  refine aY _ _ _ _ _ _ _ fun g=>?_
  cases e with
  | true =>
   have hih':=fun H' hF'=>hih H' hF' (fun H''=>by have:=hQ2 H'';rw[Bool.true_and]at this;exact this)
   clear hih hQ2
   rw[hlm]at hih'
   simp[af,ah,ad,ae,aa, *,aC,hx.idx,hy.idx]
   exact hih' _ (by simp(maxDischargeDepth:=12) [Heap.aj,aD,ar,Fr.nil,aP,af,ah,ad,ae,aF,aq,aa, *])
  | false =>
   simp only[Bool.false_and]at hQ2
   clear hih
   simp[af,ah,ad,ae,aa, *,aC,hx.idx,hy.idx]
theorem WO:limf env 54 [x,y,.fn (.func 55) [] []]=some (aB (lK (rcs l) (rcs m))):=by
 refine aH (fn:=Tryz.f54) (c:=aM) rfl (by kernel_rfl) (by kernel_rfl) (by kernel_rfl) (by kernel_rfl) ?_;refine cr _ _ _ _ _ fun g=>?_
 have h1:=hx.r
 have h2:=hy.r
 rw[gD]at h1 h2
 by_cases hlm:l.length=m.length
 ·have h:=MW hx hy hl hm hbig hlm (Q:=fun v H=>ia env 54 v H (aB (lK (rcs l) (rcs m)))) l m 0 0 [] rfl rfl (by omega) rfl (by simp(maxDischargeDepth:=12) [aD,ar,Fr.nil,aP,af,ah,ad,ae,aF,aq,aa, *]) (fun H'=>by simp)
  rw[hlm]at h h1
  clear hl hm
  simp[af,ah,ad,ae,aa, *,aO]
  exact h
 ·have hne : ¬(l.length:Int)=m.length:=by omega
  rw[CG (by simpa using hlm)]
  clear hl hm
  simp[af,ah,ad,ae,aa, *,aO]
end
def Mz(d:Dk)(many:Int)(h:Hd):Bool:=decide (d.st<h.st)||(decide (many+1<h.nu)||(decide (h.nu=many+1)&&(decide (h.st=d.st) && !d.dd)))
def oddB(d:Dk)(many:Int)(s:Sec):Bool:=decide (s.pos<2048)&&(kD s.bs&&Mz d many (hdOf s.bs))
theorem IL{d:Dk}(hf:d.Fit){many:Int}(hmn:0≤many∧many<100000000){s:Sec}(hs:oL s):limf env 75 [.agg [aI s.pos,s.av],.iptr 4 [d.val] 0 0,.iptr 1 [aI many] 0 0]=some (aB (oddB d many s)):=by
 refine aH (fn:=Tryz.f75) (c:=qc) rfl (by kernel_rfl) (by kernel_rfl) (by kernel_rfl) (by kernel_rfl) ?_;refine wb _ _ _ _ _ fun g=>?_
 have hh:=xl hs
 have hsr:=hs.r
 have hxv:=hf.sl.r
 have e1:=IntWalk.i64_in (many+1) (by omega)
 unfold oddB Mz
 clear hf
 obtain⟨l,x,st,lf,dd⟩:=d
 simp only[Dk.val,dsk]at *
 cases ho:kD s.bs with
 | false =>
  rw[ho,if_neg (by decide)]at hh
  simp only[Bool.false_and,Bool.and_false]
  simp only[Hd.val]at hh
  clear ho
  by_cases c1:st<0
  ·by_cases c4:s.pos<2048<;>simp[af,ah,ad,ae,aa, *,eS]
  ·by_cases c2:many+1<0
   ·omega
   ·by_cases c3:(0:Int)=many+1
    ·omega
    ·by_cases c4:s.pos<2048<;>simp[af,ah,ad,ae,aa, *,eS]
 | true =>
  rw[ho,if_pos rfl]at hh
  simp only[Bool.true_and]
  generalize hdOf s.bs=h at *
  obtain⟨h_1,h_2,h_3,h_4⟩:=h
  simp only[Hd.val]at hh
  simp only
  clear ho
  by_cases c1:st<h_1
  ·by_cases c4:s.pos<2048<;>simp[af,ah,ad,ae,aa, *,eS]
  ·by_cases c2:many+1<h_2
   ·by_cases c4:s.pos<2048<;>simp[af,ah,ad,ae,aa, *,eS]
   ·by_cases c3:h_2=many+1
    ·by_cases c5:h_1=st
     ·by_cases c4:s.pos<2048<;>cases dd<;>simp[af,ah,ad,ae,aa, *,eS]
     ·by_cases c4:s.pos<2048<;>simp[af,ah,ad,ae,aa, *,eS]
    ·by_cases c4:s.pos<2048<;>simp[af,ah,ad,ae,aa, *,eS]
section
variable{d:Dk}(hf:d.Fit){many:Int}(hmn:0≤many∧many<100000000)
include hf hmn
theorem PN{Q:AV→Heap→Prop}{H:Heap} : ∀(s:List Sec)(k:Nat)(i:Int),d.l.drop k=s→k≤d.l.length→i=k→(∀j:Int,(0≤j↔s.any (oddB d many)=true)→Q (aI j) H) →
 GoL env Tryz.f119 0 bh [(8,aI i),(0,d.x),(1,.fn (.func 75) [] [.iptr 4 [d.val] 0 0,.iptr 1 [aI many] 0 0]),(7,aI d.l.length)] H Q:=by
 intro s
 induction s with
 | nil =>
  rintro k i hs hk rfl hQ
  obtain rfl:=drop_nil hs hk
  have hQ':=hQ (-1) (by simp)
  refine cM _ _ _ _ _ _ fun g=>?_
  clear hQ hf
  simp[af,ah,ad,ae,aa, *,bj]
  all_goals exact hQ'
 | cons p s ih =>
  rintro k i hs hk rfl hQ
  obtain⟨hlt,hg,hs',hg'⟩:=drop_cons hs
  have hp:=hf.ok p (hg ▸ List.getElem_mem _)
  have hF:=IL hf hmn hp
  have e3:=IntWalk.i64_in ((k:Int)+1) (by have:=hf.len;omega)
  have hrd:ee (encS d.l) k 0 2 true=some (.agg [aI p.pos,p.av]):=by simp[encS,hg',Sec.enc]
  have hkl:(k:Int)<d.l.length:=by omega
  have hsr:=hp.r
  have hxv:=hf.sl.r
  have hsl:=hf.sl
  have hvd : ∀g n,view g (n+2) d.val=some d.val:=by
   intro g n
   have:=hf.sl.r
   obtain⟨l,x,st,lf,dd⟩:=d
   simp only[Dk.val,dsk]at *
   simp[this]
  refine cM _ _ _ _ _ _ fun g=>?_
  cases ho:oddB d many p with
  | true =>
   have hQ':=hQ (k:Int) (by simp[ho])
   rw[ho]at hF
   clear ih hQ ho hf
   obtain⟨l,x,st,lf,dd⟩:=d
   simp only[Dk.val,dsk]at *
   simp[af,ah,ad,ae,aa, *,bj,hsl.idx]
   all_goals exact hQ'
  | false =>
   have hih:=ih (k+1) ((k:Int)+1) hs' (by omega) (by simp) (fun j hj=>hQ j (by simpa [ho] using hj))
   rw[ho]at hF
   clear ih hQ ho hf
   obtain⟨l,x,st,lf,dd⟩:=d
   simp only[Dk.val,dsk]at *
   simp[af,ah,ad,ae,aa, *,bj,hsl.idx]
theorem GV:limf env 77 [d.x,.fn (.func 75) [] [.iptr 4 [d.val] 0 0,.iptr 1 [aI many] 0 0]]=some (aB (d.l.any (oddB d many))):=by
 refine aH (fn:=Tryz.f77) (c:=cH) rfl (by kernel_rfl) (by kernel_rfl) (by kernel_rfl) (by kernel_rfl) ?_;refine dZ _ _ _ _ fun g=>?_
 have hIx : ∃y,limf env 119 [d.x,.fn (.func 75) [] [.iptr 4 [d.val] 0 0,.iptr 1 [aI many] 0 0]]=some y ∧∃j:Int,y=aI j∧(0≤j↔d.l.any (oddB d many)=true):=by
  refine Bz (fn:=Tryz.f119) (c:=bL) (by kernel_rfl) (by kernel_rfl) (by kernel_rfl) (by kernel_rfl) (by kernel_rfl) ?_
  refine eB _ _ _ _ fun g=>?_
  have hl:=PN hf hmn (Q:=fun x H =>∃y,ia env 119 x H y ∧∃j:Int,y=aI j∧(0≤j↔d.l.any (oddB d many)=true)) (H:=[]) d.l 0 0 rfl (by omega) rfl (fun j hj=>⟨aI j,by simp,j,rfl,hj⟩)
  have hxl:=hf.sl.len
  rw[wT]at hxl
  clear hf
  generalize d.l.any (oddB d many)=b at *
  simp[af,ah,ad,ae,aa, *,cR]
  exact hl
 obtain⟨y,h1,j,rfl,hj⟩:=hIx
 have hxv:=hf.sl.r
 have hb:d.l.any (oddB d many)=decide (0≤j):=by
  cases h:d.l.any (oddB d many) with
  | true=>rw[h]at hj;exact(decide_eq_true (hj.2 rfl)).symm
  | false=>rw[h]at hj;exact(decide_eq_false (fun h2=>by cases hj.1 h2)).symm
 rw[hb]
 clear hf hj hb
 obtain⟨l,x,st,lf,dd⟩:=d
 simp only[Dk.val,dsk]at *
 simp[af,ah,ad,ae,aa, *,cI]
theorem ON:limf env 48 [d.val,aI many]=some (aB (!d.l.any (oddB d many))):=by
 refine aH (fn:=Tryz.f48) (c:=sd) rfl (by kernel_rfl) (by kernel_rfl) (by kernel_rfl) (by kernel_rfl) ?_;refine yH _ _ _ _ fun g=>?_
 have h:=GV hf hmn
 have hxv:=hf.sl.r
 generalize d.l.any (oddB d many)=b at *
 clear hf
 obtain⟨l,x,st,lf,dd⟩:=d
 simp only[Dk.val,dsk]at *
 simp[af,ah,ad,ae,aa, *,sC]
end
end Go.Proofs.YtiidajnodhkidaaGreat
