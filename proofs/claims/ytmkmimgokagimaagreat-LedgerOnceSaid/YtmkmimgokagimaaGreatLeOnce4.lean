/-
  Serials, quotas, blocks: the law's walk. No statement of a seat is proved here.
-/
import Derived.Test.YtmkmimgokagimaaGreatLeOnce3
import Derived.Test.YtmkmimgokagimaaGreatLeOnce2
import Derived.Test.YtmkmimgokagimaaGreatLeVl7
set_option linter.unusedVariables false
set_option linter.unusedSimpArgs false
set_option linter.unusedSectionVars false
set_option linter.unnecessarySimpa false
set_option maxRecDepth 100000
namespace Go.Proofs.YtmkmimgokagimaaGreat
open Go.Ab
attribute [local simp] bn aV aF bj bh keep thr bD aX bc dx dw cN bE aD ct List.take_of_length_le
theorem Fw{P:Program}{t z:Nat}(h:(eE P t).bind (aT P)=some z){es:List AV}{x:AV}(hx:Sl z es x){n:Int}(h0:0≤n)(hn:n≤es.length) :
 ∃y,(∀g,eB P g t (some x) (some none) (some (some n)) (some none)=some (y,[]))∧Sl z (es.take n.toNat) y:=by
 rcases hx with ⟨rfl,rfl⟩ | ⟨c,rfl,hcap⟩
 ·refine⟨aNil,fun g=>?_,.inl ⟨rfl,by simp⟩⟩
  rw[tl (by rw[h];rfl)]
  have:n=0:=by simp at hn;omega
  subst this;rfl
 ·obtain⟨y,h1,h2⟩:=zg h (fun _=>none) (.inr ⟨c,rfl,hcap⟩) h0 hn
  refine⟨y,fun g=>?_,h2⟩
  rw[yt h]at h1 ⊢
  exact h1
theorem Og{p:Rcd × AV}(hp:okRc p):limf env 42 [p.1.val p.2]=some (if jd p.1 then .tup [aI (recN p.1),aI 0] else .tup [aI 0,aI 8]):=by
 obtain⟨⟨k,u,⟨a_1,⟨a_2,a_3,a_4⟩,a_5,⟨⟨⟨a_6,a_7,a_8⟩,a_9⟩,a_10⟩,⟨⟨a_11,a_12,a_13⟩,a_14⟩,⟨a_15,a_16⟩,l⟩,c,g,v,w,o⟩,x⟩:=p
 exact Ea k u a_1 a_2 a_3 a_4 a_5 a_6 a_7 a_8 a_9 a_10 a_11 a_12 a_13 a_14 a_15 a_16 c g v w o hp.1 (by have:=hp.2;simp at this;omega)
theorem Jb:limf env 36 []=some (aB true):=by
 refine rC.2 ⟨0,fun m _=>?_⟩
 rfl
theorem Eh{r:Rcd}(h:jd r=true)(k2:r.kind=2):ma r.op.h=true:=by
 unfold jd at h
 rw[if_neg (by rw[k2];decide),if_pos k2]at h
 simp only[Bool.and_eq_true]at h
 have:=h.2.1
 simp only[opB,Bool.and_eq_true]at this
 exact this.1
theorem Jt{us:List Clear}{qs:List Quota}{gr:Int}{l:List (Rcd × AV)}{b:Book}(ho:ofA us qs gr l=some b){k:Nat}(hk:k<l.length)(k2:(l[k]).1.kind=2) :
 CK us qs gr l (l[k]).1.op.h (l[k]).1.op.serial = .tup [aI (l[k]).1.code,aI 0]:=by
 obtain⟨hI,hs⟩:=Dw ho hk
 obtain⟨h1,h2⟩:=hs k2
 unfold CK
 rw[ho]
 dsimp only
 rw[if_pos (Eh hI k2)]
 unfold o6
 have hsp:l.map twR=(l.take k).map twR++(twR l[k] :: (l.drop (k+1)).map twR):=by
  rw[←List.map_cons,←List.map_append,←List.drop_eq_getElem_cons hk,List.take_append_drop]
 have hno:((l.take k).map twR).find? (isOp (l[k]).1.op.h (l[k]).1.op.serial)=none:=by
  rw[List.find?_eq_none]
  intro q hq
  obtain⟨p,hp,rfl⟩:=List.mem_map.1 hq
  unfold isOp
  simp only[Bool.and_eq_true,decide_eq_true_eq]
  rintro⟨e1,e2,e3⟩
  have:=h2 p hp e1 e2
  have e3':p.1.op.serial=(l[k]).1.op.serial:=e3
  omega
 have hyes:isOp (l[k]).1.op.h (l[k]).1.op.serial (twR l[k])=true:=by
  unfold isOp
  simp only[Bool.and_eq_true,decide_eq_true_eq]
  exact⟨k2,rfl,rfl⟩
 rw[hsp,List.find?_append,hno,Option.none_or,List.find?_cons,hyes]
 rfl
theorem EC(h:Han)(l:List (Rcd × AV)){k:Nat}(hk:k<l.length):jS h (l.take (k+1))=if (l[k]).1.kind=2∧(l[k]).1.op.h=h then (l[k]).1.op.serial else jS h (l.take k):=by
 rw[List.take_add_one,List.getElem?_eq_getElem hk,Option.toList_some,sx]
theorem wV(l:List (Rcd × AV)){k:Nat}(hk:k<l.length):kN (l.take (k+1))=kN (l.take k)+recN (l[k]).1:=by
 rw[List.take_add_one,List.getElem?_eq_getElem hk,Option.toList_some,qy]
theorem Hm : ∀(l:List (Rcd × AV)),(∀p∈l,jd p.1=true) →∀k,k≤l.length→0≤kN (l.take k)∧kN (l.take k)≤3 * k:=by
 intro l h k
 induction k with
 | zero=>intro _;simp[kN]
 | succ k ih =>
  intro hk
  have:=ih (by omega)
  have:=(vH (h _ (List.getElem_mem (show k<l.length by omega)))).2.1
  rw[wV l (by omega)]
  omega
section
variable{xu xq:AV}{us:List Clear}{qs:List Quota}{gr:Int}(hu:Sl 3 (gz us) xu)(hq:Sl 5 (gS qs) xq)(hul:us.length<1000000)(hql:qs.length<1000000){l:List (Rcd × AV)}{x1:AV}(hx:Sl 24 (dv l) x1)(hall : ∀p∈l,okRc p)
 {b:Book} (ho:ofA us qs gr l=some b) (hll:l.length≤25) {r4 r6:Ref} (v1:UInt8) (v2:UInt32) (many:Int) {H:Heap} (hF:Fr H) (h4:H.get r4=some ⟨3,[.agg [xu,xq,aI gr]],false,false⟩) (h6:H.get r6=some ⟨2,[.agg [a8 v1,a32 v2]],false,false⟩) {Q:AV→Heap→Prop} (hQ : ∀H',Q (aB true) H')
include hu hq hul hql hx hall ho hll hF h4 h6 hQ
theorem GI{i:Nat}(hi:i<l.length)(k2:(l[i]).1.kind=2)(n:Int)
 (hn:GoL env Tryz.f7 0 bz [(11,aI (i+1:Nat)),(1,x1),(4,.ptr r4 0 0),(10,aI n),(9,aB true),(6,.ptr r6 0 0),(3,aI many)] H Q) :
 ∀(m k:Nat),i - k=m→k≤i→GoL env Tryz.f7 0 bW [(15,aI k),(1,x1),(11,aI i),(4,.ptr r4 0 0),(10,aI n),(9,aB true),(6,.ptr r6 0 0),(3,aI many),(14,aI (jS (l[i]).1.op.h (l.take k)))] H Q:=by
 intro m
 have hgi:=List.getElem?_eq_getElem hi
 induction m with
 | zero =>
  intro k hk hki
  obtain rfl:k=i:=by omega
  have hC:=Jt ho hi k2
  obtain⟨_,hser⟩:=Dw ho hi
  have hs:=(hser k2).1
  have hb:=(hser k2).2
  have hup:=(B8 ho).up (l[k]).1.op.h
  have hle:(l[k]).1.op.serial≤jS (l[k]).1.op.h l:=hup.2.2 _ (List.getElem_mem hi) k2 rfl
  have hlt:(l[k]).1.op.serial<16777216:=by have:=hup.2.1;omega
  have hge:1≤(l[k]).1.op.serial:=by
   have hI:=(Dw ho hi).1
   unfold jd at hI
   rw[if_neg (by rw[k2];decide),if_pos k2]at hI
   simp only[Bool.and_eq_true,opB,decide_eq_true_eq]at hI
   exact hI.2.1.2.1
  have hw:IntKind.i64.wrap (jS (l[k]).1.op.h (l.take k)+1)=(l[k]).1.op.serial:=by rw[hs];exact IntWalk.i64_in _ (by omega)
  have hCode:=Ol (gr:=gr) hu hq hul hql hx hall (l[k]).1.op.h.lv (l[k]).1.op.h.cats (l[k]).1.op.h.num (l[k]).1.op.serial
  rw[show(⟨(l[k]).1.op.h.lv,(l[k]).1.op.h.cats,(l[k]).1.op.h.num⟩:Han)=(l[k]).1.op.h from rfl,hC]at hCode
  have w1:=IntWalk.i64_in ((k:Int)+1) (by omega)
  clear hQ hC hser hs hb hup hle hlt hge
  generalize jS (l[k]).1.op.h (l.take k)=ls at *
  have hgi':(dv l)[k]?=some ((l[k]).1.val (l[k]).2):=by simp[dv,hi]
  clear hall ho hgi
  generalize hp:l[k]=p at *
  clear hp
  obtain⟨⟨k1,u,⟨a_1,⟨a_2,a_3,a_4⟩,a_5,⟨⟨⟨a_6,a_7,a_8⟩,a_9⟩,a_10⟩,⟨⟨a_11,a_12,a_13⟩,a_14⟩,⟨a_15,a_16⟩,al⟩,c,g1,v,w,o⟩,x⟩:=p
  simp only at k2
  subst k2
  simp only at hw hCode
  have hrd:(dv l)[k]?=some (.agg [a8 2,aI u,a8 a_1,a8 a_2,a32 a_3,a8 a_4,aI a_5,a8 a_6,a32 a_7,a8 a_8,aI a_9,aI a_10,a8 a_11,a32 a_12,a8 a_13,aI a_14,a8 a_15,a32 a_16,x,aI c,aI g1,a8 v,a32 w,aB o]):=hgi'
  have hrr : ∀j n ag,dy (dv l) k j n ag=dy [.agg [a8 2,aI u,a8 a_1,a8 a_2,a32 a_3,a8 a_4,aI a_5,a8 a_6,a32 a_7,a8 a_8,aI a_9,aI a_10,a8 a_11,a32 a_12,a8 a_13,aI a_14,a8 a_15,a32 a_16,x,aI c,aI g1,a8 v,a32 w,aB o]] 0 j n ag:=fun j n ag=>by simp only[dy,hrd];rfl
  clear hgi' hrd
  have hel:=lN l
  generalize dv l=er at *
  generalize l.length=nl at *
  refine fX _ _ _ _ _ _ _ _ _ _ _ fun g=>?_
  simp[af,ah,ad,ae,ab, *,bZ,hx.r,hx.idx,hu.r,hq.r]
  all_goals exact hn
 | succ m ih =>
  intro k hk hki
  have hlt:k<l.length:=by omega
  have e:=ih (k+1) (by omega) (by omega)
  rw[EC _ l hlt]at e
  have w1:=IntWalk.i64_in ((k:Int)+1) (by omega)
  have hki':(k:Int)<i:=by omega
  have hgk:(dv l)[k]?=some ((l[k]).1.val (l[k]).2):=by simp[dv,hlt]
  have hgi':(dv l)[i]?=some ((l[i]).1.val (l[i]).2):=by simp[dv,hi]
  clear hQ ih hn
  generalize jS (l[i]).1.op.h (l.take k)=ls at *
  clear hall ho hgi
  generalize hp:l[k]=p at *
  generalize hp:l[i]=p' at *
  clear hp
  clear hp
  obtain⟨⟨k1,u,⟨a_1,⟨a_2,a_3,a_4⟩,a_5,⟨⟨⟨a_6,a_7,a_8⟩,a_9⟩,a_10⟩,⟨⟨a_11,a_12,a_13⟩,a_14⟩,⟨a_15,a_16⟩,al⟩,c,g1,v,w,o⟩,x⟩:=p
  obtain⟨⟨k1',u',⟨b_1,⟨b_2,b_3,b_4⟩,b_5,⟨⟨⟨b_6,b_7,b_8⟩,b_9⟩,b_10⟩,⟨⟨b_11,b_12,b_13⟩,b_14⟩,⟨b_15,b_16⟩,bl⟩,c',g1',v',w',o'⟩,x'⟩:=p'
  simp only at k2 e
  subst k2
  have hrd:(dv l)[k]?=some (.agg [a8 k1,aI u,a8 a_1,a8 a_2,a32 a_3,a8 a_4,aI a_5,a8 a_6,a32 a_7,a8 a_8,aI a_9,aI a_10,a8 a_11,a32 a_12,a8 a_13,aI a_14,a8 a_15,a32 a_16,x,aI c,aI g1,a8 v,a32 w,aB o]):=hgk
  have hrd':(dv l)[i]?=some (.agg [a8 2,aI u',a8 b_1,a8 b_2,a32 b_3,a8 b_4,aI b_5,a8 b_6,a32 b_7,a8 b_8,aI b_9,aI b_10,a8 b_11,a32 b_12,a8 b_13,aI b_14,a8 b_15,a32 b_16,x',aI c',aI g1',a8 v',a32 w',aB o']):=hgi'
  have hrr : ∀j n ag,dy (dv l) k j n ag=dy [.agg [a8 k1,aI u,a8 a_1,a8 a_2,a32 a_3,a8 a_4,aI a_5,a8 a_6,a32 a_7,a8 a_8,aI a_9,aI a_10,a8 a_11,a32 a_12,a8 a_13,aI a_14,a8 a_15,a32 a_16,x,aI c,aI g1,a8 v,a32 w,aB o]] 0 j n ag:=fun j n ag=>by simp only[dy,hrd];rfl
  have hrr' : ∀j n ag,dy (dv l) i j n ag=dy [.agg [a8 2,aI u',a8 b_1,a8 b_2,a32 b_3,a8 b_4,aI b_5,a8 b_6,a32 b_7,a8 b_8,aI b_9,aI b_10,a8 b_11,a32 b_12,a8 b_13,aI b_14,a8 b_15,a32 b_16,x',aI c',aI g1',a8 v',a32 w',aB o']] 0 j n ag:=fun j n ag=>by simp only[dy,hrd'];rfl
  clear hgk hgi' hrd hrd'
  have hel:=lN l
  generalize dv l=er at *
  generalize l.length=nl at *
  have hhe:(⟨a_2,a_3,a_4⟩:Han)=⟨b_2,b_3,b_4⟩↔(a_2=b_2∧a_3=b_3∧a_4=b_4):=by simp
  simp only[hhe]at e
  refine fX _ _ _ _ _ _ _ _ _ _ _ fun g=>?_
  by_cases e1:k1=2
  ·subst e1
   by_cases e2:a_2=b_2∧a_3=b_3∧a_4=b_4
   ·obtain⟨rfl,rfl,rfl⟩:=e2
    rw[if_pos ⟨rfl,rfl,rfl,rfl⟩]at e
    clear hhe
    simp[af,ah,ad,ae,ab, *,bZ,hx.r,hx.idx,eqA,eqFs]
    exact e
   ·rw[if_neg (fun hh=>e2 hh.2)]at e
    have e3:(decide (a_2=b_2)&&(decide (a_3=b_3)&&decide (a_4=b_4)))=false:=by
     simp only[Bool.and_eq_false_iff,decide_eq_false_iff_not];grind
    have e4:((decide (a_2=b_2)&&decide (a_3=b_3))&&decide (a_4=b_4))=false:=by
     simp only[Bool.and_eq_false_iff,decide_eq_false_iff_not];grind
    clear hhe e2
    simp[af,ah,ad,ae,ab, *,bZ,hx.r,hx.idx,eqA,eqFs]
    try exact e
  ·rw[if_neg (fun hh=>e1 hh.1)]at e
   clear hhe
   simp[af,ah,ad,ae,ab, *,bZ,hx.r,hx.idx,eqA,eqFs]
   exact e
theorem IU:GoL env Tryz.f7 0 bz [(11,aI l.length),(1,x1),(4,.ptr r4 0 0),(10,aI (kN l)),(9,aB true),(6,.ptr r6 0 0),(3,aI many)] H Q:=by
 obtain⟨hp,_,_⟩:=vP ho
 have hB:=FJ (gr:=gr) hu hq (by omega) (by omega)
 rw[if_pos hp,hp]at hB
 have hle:=Lv ho
 have hble : ¬gT gr qs<kN l:=by omega
 have hI:=(B8 ho).use ⟨v1,v2⟩
 have hU:=Of (gr:=gr) hu hq hul hql hx hall v1 v2
 have hQu:=BQ (gr:=gr) hu hq (by omega) (by omega) v1 v2
 unfold D6 at hU
 rw[ho]at hU
 dsimp only at hU hI
 have hpk:sg us qs gr v1=if v1≤15 then 0 else 8:=by
  unfold sg
  rw[hp]
  by_cases h:v1≤15
  ·rw[if_pos h,(Cj v1).2 h];decide
  ·have h8:qN v1=8:=by unfold qN;rw[if_pos (by simpa using h)]
   rw[if_neg h,h8];decide
 have hend : ∃(u q:Quota) (e:Int),limf env 31 [.agg [xu,xq,aI gr],x1,.agg [a8 v1,a32 v2]]=some (.tup [.agg u.enc,aI e])∧limf env 44 [.agg [xu,xq,aI gr],.agg [a8 v1,a32 v2]]=some (.tup [.agg q.enc,aI e])∧u.opens≤q.opens∧u.ops≤q.ops∧u.cells≤q.cells:=by
  by_cases h:v1≤15
  ·rw[if_pos h]at hU hpk
   rw[hpk]at hQu
   exact⟨_,_,0,hU,hQu,hI.2.1,hI.2.2.2.1,hI.2.2.2.2⟩
  ·rw[if_neg h]at hU hpk
   rw[hpk]at hQu
   have hz:eY us qs gr v1 v2=⟨0,0,0,0,0⟩:=by unfold eY;rw[if_neg (by rw[hpk];decide)]
   rw[hz]at hQu
   exact⟨⟨0,0,0,0,0⟩,⟨0,0,0,0,0⟩,8,hU,hQu,Int.le_refl _,Int.le_refl _,Int.le_refl _⟩
 clear hU hQu hpk
 obtain⟨⟨u1,u2,u3,u4,u5⟩,⟨q1,q2,q3,q4,q5⟩,e,hU,hQu,l3,l4,l5⟩:=hend
 simp only at l3 l4 l5
 simp only[Quota.enc]at hU hQu
 have hel:=lN l
 have hfin : ∀H',Q (aB true) H':=hQ
 by_cases hm0:0≤many
 ·by_cases hml:many≤l.length
  ·obtain⟨y,hy,hys⟩:=Fw (P:=env.P) (t:=26) (z:=24) (by kernel_rfl) hx hm0 (by rw[lN];exact hml)
   have htk:(dv l).take many.toNat=dv (l.take many.toNat):=by simp[dv]
   rw[htk]at hys
   have hC:=AG (gr:=gr) hu hq hul hql hys (fun p hp=>hall p (List.mem_of_mem_take hp))
   rw[IX ho]at hC
   have hyr:=hys.r
   clear hall ho hI hQ hle htk hys
   generalize dv l=er at *
   generalize dv (l.take many.toNat)=er2 at *
   generalize kN l=bl at *
   generalize gT gr qs=bq at *
   generalize l.length=nl at *
   refine cU _ _ _ _ _ _ _ _ _ fun g=>?_
   simp[af,ah,ad,ae,ab, *,bG,hx.r,hu.r,hq.r,bad]
  ·clear hall ho hI hQ hle
   generalize dv l=er at *
   generalize kN l=bl at *
   generalize gT gr qs=bq at *
   generalize l.length=nl at *
   refine cU _ _ _ _ _ _ _ _ _ fun g=>?_
   simp[af,ah,ad,ae,ab, *,bG,hx.r,hu.r,hq.r,bad]
 ·clear hall ho hI hQ hle
  generalize dv l=er at *
  generalize kN l=bl at *
  generalize gT gr qs=bq at *
  generalize l.length=nl at *
  refine cU _ _ _ _ _ _ _ _ _ fun g=>?_
  simp[af,ah,ad,ae,ab, *,bG,hx.r,hu.r,hq.r,bad]
theorem Gn : ∀(m i:Nat),l.length - i=m→i≤l.length→GoL env Tryz.f7 0 bz [(11,aI i),(1,x1),(4,.ptr r4 0 0),(10,aI (kN (l.take i))),(9,aB true),(6,.ptr r6 0 0),(3,aI many)] H Q:=by
 intro m
 induction m with
 | zero =>
  intro i hm hi
  obtain rfl:i=l.length:=by omega
  rw[List.take_length]
  exact IU hu hq hul hql hx hall ho hll v1 v2 many hF h4 h6 hQ
 | succ m ih =>
  intro i hm hi
  have hlt:i<l.length:=by omega
  have e:=ih (i+1) (by omega) (by omega)
  have hat:=(Dw ho hlt).1
  have hCt:=Og (hall _ (List.getElem_mem hlt))
  have hxp:=(hall _ (List.getElem_mem hlt)).1
  rw[if_pos hat]at hCt
  have hb:=Hm l (OR ho) i hi
  have hN:=(vH hat).2.1
  have hlast:=GI hu hq hul hql hx hall ho hll v1 v2 many hF h4 h6 hQ hlt
  rw[wV l hlt]at e
  have w1:=IntWalk.i64_in (kN (l.take i)+(recN (l[i]).1:Int)) (by omega)
  have w2:=IntWalk.i64_in ((i:Int)+1) (by omega)
  have hli:(i:Int)<l.length:=by omega
  have hl0:=fun h=>hlast h _ e i 0 (by omega) (by omega)
  have hls : ∀h:Han,jS h (l.take 0)=0:=fun h=>rfl
  simp only[hls]at hl0
  have hgi':(dv l)[i]?=some ((l[i]).1.val (l[i]).2):=by simp[dv,hlt]
  generalize kN (l.take i)=bl at *
  clear hall ho hQ ih hlast hat hb hN hls
  generalize hp:l[i]=p at *
  clear hp
  generalize hn:recN p.1=n at *
  clear hn
  obtain⟨⟨k1,u,⟨a_1,⟨a_2,a_3,a_4⟩,a_5,⟨⟨⟨a_6,a_7,a_8⟩,a_9⟩,a_10⟩,⟨⟨a_11,a_12,a_13⟩,a_14⟩,⟨a_15,a_16⟩,al⟩,c,g1,v,w,o⟩,x⟩:=p
  have hCt':limf env 42 [.agg [a8 k1,aI u,a8 a_1,a8 a_2,a32 a_3,a8 a_4,aI a_5,a8 a_6,a32 a_7,a8 a_8,aI a_9,aI a_10,a8 a_11,a32 a_12,a8 a_13,aI a_14,a8 a_15,a32 a_16,x,aI c,aI g1,a8 v,a32 w,aB o]]=some (.tup [aI n,aI 0]):=hCt
  simp only at hl0 hxp
  have hrd:(dv l)[i]?=some (.agg [a8 k1,aI u,a8 a_1,a8 a_2,a32 a_3,a8 a_4,aI a_5,a8 a_6,a32 a_7,a8 a_8,aI a_9,aI a_10,a8 a_11,a32 a_12,a8 a_13,aI a_14,a8 a_15,a32 a_16,x,aI c,aI g1,a8 v,a32 w,aB o]):=hgi'
  have hrr : ∀j n ag,dy (dv l) i j n ag=dy [.agg [a8 k1,aI u,a8 a_1,a8 a_2,a32 a_3,a8 a_4,aI a_5,a8 a_6,a32 a_7,a8 a_8,aI a_9,aI a_10,a8 a_11,a32 a_12,a8 a_13,aI a_14,a8 a_15,a32 a_16,x,aI c,aI g1,a8 v,a32 w,aB o]] 0 j n ag:=fun j n ag=>by simp only[dy,hrd];rfl
  clear hgi' hrd hCt
  have hel:=lN l
  generalize dv l=er at *
  generalize l.length=nl at *
  refine cU _ _ _ _ _ _ _ _ _ fun g=>?_
  by_cases k2:k1=2
  ·subst k2
   have hl0:=hl0 rfl
   simp[af,ah,ad,ae,ab, *,bG,hx.r,hx.idx,hu.r,hq.r,hxp.r]
   exact hl0
  ·clear hl0
   simp[af,ah,ad,ae,ab, *,bG,hx.r,hx.idx,hu.r,hq.r,hxp.r]
   exact e
end
section
variable{xu xq:AV}{us:List Clear}{qs:List Quota}{gr:Int}(hu:Sl 3 (gz us) xu)(hq:Sl 5 (gS qs) xq){l:List (Rcd × AV)}{x1:AV}(hx:Sl 24 (dv l) x1)(hl : ∀p∈l,Sl 1 (rows p.1.op.l) p.2)
include hu hq hx hl
theorem IT(v1:UInt8)(v2:UInt32)(many:Int):limf env 7 [.agg [xu,xq,aI gr],x1,.agg [a8 v1,a32 v2],aI many]=some (aB true):=by
 obtain⟨t,hG,ht⟩:=Io (gr:=gr) hu hq hx hl 25
 have hA:=Jb
 refine az (fn:=Tryz.f7) (c:=dq) rfl (by kernel_rfl) (by kernel_rfl) (by kernel_rfl) (by kernel_rfl) ?_;refine lT _ _ _ _ _ _ fun g=>?_
 cases t with
 | true =>
  clear hl
  simp[af,ah,ad,ae,ab, *,dt,hx.r,hu.r,hq.r]
 | false =>
  obtain⟨b1,b2,b3,b4⟩:=ht rfl
  have hll:l.length≤25:=by omega
  have hok : ∀p∈l,okRc p:=fun p hp=>⟨hl p hp,by have:=b4 p (by rw[List.take_of_length_le (by omega)];exact hp);omega⟩
  have hul:us.length<1000000:=by omega
  have hql:qs.length<1000000:=by omega
  have hC:=AG (gr:=gr) hu hq hul hql hx hok
  clear hl b4 ht
  cases ho:ofA us qs gr l with
  | none =>
   rw[ho]at hC
   simp only[Option.isSome_none]at hC
   clear hok ho
   simp[af,ah,ad,ae,ab, *,dt,hx.r,hu.r,hq.r]
  | some b =>
   rw[ho]at hC
   simp only[Option.isSome_some,if_true]at hC
   have hlp:=fun(H:Heap)(hF:Fr H) r4 r6 h4 h6=>Gn (gr:=gr) hu hq hul hql hx hok ho hll (r4:=r4) (r6:=r6) v1 v2 many hF h4 h6 (Q:=fun x H=>o3 env 7 x H (aB true)) (fun H'=>by simp) l.length 0 (by omega) (by omega)
   have h0:kN (l.take 0)=0:=rfl
   rw[h0]at hlp
   clear hok ho
   simp[af,ah,ad,ae,ab, *,dt,hx.r,hu.r,hq.r]
   refine hlp _ ?_ _ _ ?_ ?_
   ·exact by simp(maxDischargeDepth:=12) [Heap.an,aq,aj,Fr.nil,ax,af,ah,ad,ae,ao,ak,ab, *]
   ·exact by simp(maxDischargeDepth:=12) [Heap.an,aq,aj,Fr.nil,ax,af,ah,ad,ae,ao,ak,ab, *]
   ·exact by simp(maxDischargeDepth:=12) [Heap.an,aq,aj,Fr.nil,ax,af,ah,ad,ae,ao,ak,ab, *]
end
end Go.Proofs.YtmkmimgokagimaaGreat
