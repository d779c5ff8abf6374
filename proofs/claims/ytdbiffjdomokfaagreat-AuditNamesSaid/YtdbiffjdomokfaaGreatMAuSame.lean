/-
  audit.Counts. No statement of a seat is proved here.
-/
import Derived.Test.YtdbiffjdomokfaaGreatAuFns
set_option linter.unusedVariables false
set_option linter.unusedSimpArgs false
set_option linter.unusedSectionVars false
set_option linter.unnecessarySimpa false
set_option maxRecDepth 100000
namespace Go.Proofs.YtdbiffjdomokfaaGreat
open Go.Ab
attribute [local simp] bK bw bo bM bL dc kS bU bx bH dJ dI cp bX bh cC List.take_of_length_le
def xG(e:nx):Bool:=decide (e.serial=0)
def Er(e:nx):Bool := !decide (e.serial=0)&&decide (e.code=0)
def Ep(e:nx):Bool := !decide (e.serial=0) && !decide (e.code=0)
theorem JY(k:Int)(h0 : -1000000≤k)(h1:k≤1000000):IntKind.i64.wrap k=k:=IntWalk.i64_in k (by omega)
theorem Gl{n:Nat}{es8:List AV}{x8:AV}(h8:Sl 24 es8 x8)(hm:es8.length≤1000){r q:Ref}(hrt:r.t=8)(hqt:q.t=6){Q:AV→ab→Prop} : ∀(s:List nx)(a b c:Nat)(H:ab),Fr H→H.get r=some (gf n true (iT s)) →
 H.get q=some ⟨4,[.agg [aI a,aI b,aI c,aI 0]],false,false⟩→a+b+c+s.length≤1000 →
 (∀H' (x y z:Nat),x=a+s.countP xG→y=b+s.countP Er→z=c+s.countP Ep→Q (.tup [.agg [aI x,aI y,aI z,aI (es8.length - x - y - z)],aI 0]) H') →
 bW env Tryz.f7 0 gl [(6,.ptr q 0 0),(8,x8),(22,.ch r)] H Q:=by
 intro s
 induction s with
 | nil =>
  intro a b c H hF hr hq hl hQ
  have hfin:=fun H'=>hQ H' a b c (by simp) (by simp) (by simp)
  refine p9 _ _ _ _ _ fun g=>?_
  refine pE (CW hr) ?_
  have hlq:(H.get q).isSome=true:=by rw[hq];rfl
  have e1:=JY ((es8.length:Int) - a) (by omega) (by simp at hl;omega)
  have e2:=JY ((es8.length:Int) - a - b) (by simp at hl;omega) (by simp at hl;omega)
  have e3:=JY ((es8.length:Int) - a - b - c) (by simp at hl;omega) (by simp at hl;omega)
  clear hQ
  simp[h8.r,hq,hlq,ab.get_put,ad,e1,e2,e3]
  exact hfin _
 | cons e s ih =>
  intro a b c H hF hr hq hl hQ
  have hlr:(H.get r).isSome=true:=by rw[hr];rfl
  have hlq:(H.get q).isSome=true:=by rw[hq];rfl
  have hne : ¬r=q:=fun e=>by rw[e]at hrt;omega
  have hne' : ¬q=r:=fun e=>hne e.symm
  have n9:((⟨0,9,H.gen 0 9,0⟩:Ref)=q)=False:=ah hF hlq 0 9 0
  have n9':(q=(⟨0,9,H.gen 0 9,0⟩:Ref))=False:=eq_false fun e=>cast n9 e.symm
  have r9:((⟨0,9,H.gen 0 9,0⟩:Ref)=r)=False:=ah hF hlr 0 9 0
  have r9':(r=(⟨0,9,H.gen 0 9,0⟩:Ref))=False:=eq_false fun e=>cast r9 e.symm
  have ea:=JY ((a:Int)+1) (by omega) (by simp at hl;omega)
  have eb:=JY ((b:Int)+1) (by omega) (by simp at hl;omega)
  have ec:=JY ((c:Int)+1) (by omega) (by simp at hl;omega)
  refine p9 _ _ _ _ _ fun g=>?_
  refine pE (CV (by rw[vU]at hr;exact hr)) ?_
  by_cases h0:e.serial=0
  ·have hn:=fun H' u1 u2 u3=>ih (a+1) b c H' u1 u2 u3 (by simp at hl;omega) (fun H'' x y z hx hy hz=>hQ H'' x y z (by rw[List.countP_cons,show xG e=true from by simp[xG,h0]];simp only[if_true,Bool.false_eq_true,if_false];omega) (by rw[List.countP_cons,show Er e=false from by simp[Er,h0]];simp only[if_true,Bool.false_eq_true,if_false];omega) (by rw[List.countP_cons,show Ep e=false from by simp[Ep,h0]];simp only[if_true,Bool.false_eq_true,if_false];omega))
   clear ih hQ hl
   obtain⟨⟨YU,h_2,YT⟩,sr,cd⟩:=e
   simp only at h0
   subst h0
   generalize iT s=es at *
   simp[nx.enc,hF,hlr,hlq,hq,hne,hne',n9,n9',r9,r9',ad,ab.get_put,ea]
   refine hn _ ?_ ?_ ?_
   ·refine aq (aD (aD hF hlr _) (by simp[ab.get_put,hne',hlq]) _) ?_ _
    simp[ad,hlr,hlq,ab.get_put,hne']
   ·simp[ab.get_put,hne,hne',r9]
   ·simp[ab.get_put,hne,hne',n9]
  ·by_cases h1:e.code=0
   ·have hn:=fun H' u1 u2 u3=>ih a (b+1) c H' u1 u2 u3 (by simp at hl;omega) (fun H'' x y z hx hy hz=>hQ H'' x y z (by rw[List.countP_cons,show xG e=false from by simp[xG,h0,h1]];simp only[if_true,Bool.false_eq_true,if_false];omega) (by rw[List.countP_cons,show Er e=true from by simp[Er,h0,h1]];simp only[if_true,Bool.false_eq_true,if_false];omega) (by rw[List.countP_cons,show Ep e=false from by simp[Ep,h0,h1]];simp only[if_true,Bool.false_eq_true,if_false];omega))
    clear ih hQ hl
    obtain⟨⟨YU,h_2,YT⟩,sr,cd⟩:=e
    simp only at h0 h1
    subst h1
    generalize iT s=es at *
    simp[nx.enc,hF,hlr,hlq,hq,hne,hne',n9,n9',r9,r9',ad,ab.get_put,eb,h0]
    refine hn _ ?_ ?_ ?_
    ·refine aq (aD (aD hF hlr _) (by simp[ab.get_put,hne',hlq]) _) ?_ _
     simp[ad,hlr,hlq,ab.get_put,hne']
    ·simp[ab.get_put,hne,hne',r9]
    ·simp[ab.get_put,hne,hne',n9]
   ·have hn:=fun H' u1 u2 u3=>ih a b (c+1) H' u1 u2 u3 (by simp at hl;omega) (fun H'' x y z hx hy hz=>hQ H'' x y z (by rw[List.countP_cons,show xG e=false from by simp[xG,h0,h1]];simp only[if_true,Bool.false_eq_true,if_false];omega) (by rw[List.countP_cons,show Er e=false from by simp[Er,h0,h1]];simp only[if_true,Bool.false_eq_true,if_false];omega) (by rw[List.countP_cons,show Ep e=true from by simp[Ep,h0,h1]];simp only[if_true,Bool.false_eq_true,if_false];omega))
    clear ih hQ hl
    obtain⟨⟨YU,h_2,YT⟩,sr,cd⟩:=e
    simp only at h0 h1
    generalize iT s=es at *
    simp[nx.enc,hF,hlr,hlq,hq,hne,hne',n9,n9',r9,r9',ad,ab.get_put,ec,h0,h1]
    refine hn _ ?_ ?_ ?_
    ·refine aq (aD (aD hF hlr _) (by simp[ab.get_put,hne',hlq]) _) ?_ _
     simp[ad,hlr,hlq,ab.get_put,hne']
    ·simp[ab.get_put,hne,hne',r9]
    ·simp[ab.get_put,hne,hne',n9]
def Gm(en:List nx)(n:Nat):AV := .agg [aI (en.countP xG),aI (en.countP Er),aI (en.countP Ep),aI ((n:Int) - en.countP xG - en.countP Er - en.countP Ep)]
def xF(us:List Clear)(qs:List bI)(gr:Int)(l:List (mv × AV))(v1:UInt8)(v2:UInt32):AV :=
 if (Ca us qs gr l).isSome=true∧v1≤15 then .tup [Gm (mc (l.filter (gB ⟨v1,v2⟩))) (l.filter (gB ⟨v1,v2⟩)).length,aI 0] else .tup [.agg [aI 0,aI 0,aI 0,aI 0],aI 8]
theorem LS(f:mv × AV→Bool)(hf : ∀p,f (vJ p)=f p) : ∀(l:List (mv × AV)),((l.map vJ).filter f).length=(l.filter f).length
 | []=>rfl
 | p :: l=>by
  have ih:=LS f hf l
  rw[List.map_cons,List.filter_cons,List.filter_cons,hf p]
  split
  ·simp[ih]
  ·exact ih
section
variable{xu xq:AV}{us:List Clear}{qs:List bI}{gr:Int}(hu:Sl 3 (fD us) xu)(hq:Sl 5 (fQ qs) xq)(hul:us.length<1000000)(hql:qs.length<1000000){l:List (mv × AV)}{x1:AV}(hx:Sl 24 (dk l) x1)(hall : ∀p∈l,AK p)(hlen:l.length≤1000)
include hu hq hul hql hx hall hlen
theorem Aw(v1:UInt8)(v2:UInt32):bj env 7 [.agg [xu,xq,aI gr],x1,.agg [a8 v1,aF v2]]=some (xF us qs gr l v1 v2):=by
 refine aJ (fn:=Tryz.f7) (c:=oQ) (by kernel_rfl) (by kernel_rfl) (by kernel_rfl) (by kernel_rfl) (by kernel_rfl) ?_
 refine zt _ _ _ _ _ fun g=>?_
 obtain⟨y0,h0,hA⟩:=KY (gr:=gr) hu hq hul hql hx hall v1 v2
 unfold xF
 unfold Is at hA
 cases ho:Ca us qs gr l with
 | none =>
  rw[ho]at hA
  subst hA
  simp[ah,ai,ae,af,ad, *,lX,hu.r,hq.r,hx.r,h0]
 | some b =>
  rw[ho]at hA
  simp only at hA
  by_cases hv:v1≤15
  ·simp only[hv,if_true]at hA
   obtain⟨x,hs,rfl⟩:=hA
   have hrr : ∀p∈(l.map vJ).filter (gB ⟨v1,v2⟩),p.2.one=true:=by
    intro p hp
    obtain⟨q,hq1,rfl⟩:=List.mem_map.1 (List.mem_filter.1 hp).1
    exact Lu (zP (hall q hq1).1)
   have hle:((l.map vJ).filter (gB ⟨v1,v2⟩)).length≤1000:=Nat.le_trans (List.length_filter_le ..) (by simpa using hlen)
   have het:=Ec (gB ⟨v1,v2⟩) (fun p=>rfl) l
   have hlt:=LS (gB ⟨v1,v2⟩) (fun p=>rfl) l
   have hlE:(mc (l.filter (gB ⟨v1,v2⟩))).length≤1000:=by
    rw[←het]
    exact Nat.le_trans (List.length_filterMap_le ..) hle
   simp[ah,ai,ae,af,ad, *,lX,hu.r,hq.r,hx.r,hs.r,h0]
   generalize mc (l.filter (gB ⟨v1,v2⟩))=en at *
   refine CH (by kernel_rfl) (C6 (CM hs hrr hle _)) ?_
   rw[het]
   have hel:(dk ((l.map vJ).filter (gB ⟨v1,v2⟩))).length=(l.filter (gB ⟨v1,v2⟩)).length:=by rw[nP,hlt]
   refine Gl hs (by rw[hel];omega) (n:=((l.map vJ).filter (gB ⟨v1,v2⟩)).length) rfl rfl en 0 0 0 _ ?_ ?_ ?_ (by simpa using hlE) (fun H' a b c ha hb hc=>?_)
   ·exact aq (by simp(maxDischargeDepth:=12) [ab.get_put,aq,an,Fr.nil,aD,ah,ai,ae,af,ar,ao,ad, *]) rfl _
   ·simp[keyed,ab.get,eu]
   ·simp[keyed,ab.get,eu]
   ·simp at ha hb hc
    subst ha hb hc
    rw[hel]
    simp[hv,Gm]
  ·simp only[hv,if_false]at hA
   subst hA
   simp[ah,ai,ae,af,ad, *,lX,hu.r,hq.r,hx.r,h0,hv]
end
end Go.Proofs.YtdbiffjdomokfaaGreat
namespace Go.Proofs.YtdbiffjdomokfaaGreat
open Go.Ab
attribute [local simp] bK bw bo bM bL dc kS bU bx bH dJ dI cp bX bh cC List.take_of_length_le
theorem Vy(a b:nx):lC env.P 20 67 [a8 a.h.lv,aF a.h.cats,a8 a.h.num,aI a.serial,aI a.code] [a8 b.h.lv,aF b.h.cats,a8 b.h.num,aI b.serial,aI b.code]=some (decide (a=b)):=by
 obtain⟨⟨a1,a2,a3⟩,a4,a5⟩:=a
 obtain⟨⟨b1,b2,b3⟩,b4,b5⟩:=b
 simp[lC,fL,and_assoc,Bool.and_assoc]
theorem XW:zD env.P 67=true:=by kernel_rfl
theorem UP(a b:nx)(xo yo:Operand):aE env.P .neq 67 xo yo (some (.agg [a8 a.h.lv,aF a.h.cats,a8 a.h.num,aI a.serial,aI a.code])) (some (.agg [a8 b.h.lv,aF b.h.cats,a8 b.h.num,aI b.serial,aI b.code]))=some (aB (!decide (a=b)),[]):=by
 rw[AG XW .neq (.inr rfl) xo yo (Vy a b) rfl rfl (by kernel_rfl) (by kernel_rfl)];rfl
section
variable{x y:AV}{a b:List nx}(hx:Sl 5 (iT a) x)(hy:Sl 5 (iT b) y)(ha:a.length≤1000000)
include hx hy ha
theorem E3(he:a.length=b.length){Q:AV→ab→Prop} : ∀(s t:List nx)(k:Nat)(i:Int)(H:ab),a.drop k=s→b.drop k=t→k≤a.length→i=k →
 (∀H',Q (aB (decide (s=t))) H')→bW env Tryz.f17 0 fy [(5,aI i),(1,y),(0,x)] H Q:=by
 intro s
 induction s with
 | nil =>
  rintro t k i H hs ht hk rfl hQ
  obtain rfl:=drop_nil hs hk
  obtain rfl:t=[]:=by rw[←ht,he];simp
  have hfin:=hQ H
  refine la _ _ _ _ _ fun g=>?_
  simp[ah,ai,ae,af,ad, *,iH,hx.r]
  simpa using hfin
 | cons e s ih =>
  rintro t k i H hs ht hk rfl hQ
  obtain⟨hlt,hg,hs',hg'⟩:=drop_cons hs
  match t,ht,hQ with
  | [],ht,hQ =>
   have:=congrArg List.length ht
   simp at this;omega
  | e2 :: t,ht,hQ =>
  obtain⟨hlt2,hg2,ht',hg2'⟩:=drop_cons ht
  have e3:=IntWalk.i64_in ((k:Int)+1) (by omega)
  have hrd:eQ (iT a) k 0 5 true=some e.enc:=by simp[iT,hg',nx.enc]
  have hrd2:eQ (iT b) k 0 5 true=some e2.enc:=by simp[iT,hg2',nx.enc]
  have hrec:=fun H' (h:e=e2)=>ih t (k+1) _ H' hs' ht' (by omega) rfl (fun H''=>by have:=hQ H'';rw[h]at this;simpa using this)
  have hno:=fun H' (h : ¬e=e2)=>(by have:=hQ H';simpa [h] using this:Q (aB false) H')
  refine la _ _ _ _ _ fun g=>?_
  clear ih hQ hs ht hs' ht' hg hg2 hg' hg2'
  simp[ah,ai,ae,af,ad, *,iH,hx.r,hy.r,hx.idx,hy.idx,hlt,hlt2,hrd,hrd2,nx.enc,UP,e3]
  refine kP (fun h=>?_) (fun h=>?_)
  ·exact hno _ (by simpa using h)
  ·simp[e3];simpa using hrec _ (by simpa using h)
theorem KQ:bj env 17 [x,y]=some (aB (decide (a=b))):=by
 refine aJ (fn:=Tryz.f17) (c:=ju) rfl (by kernel_rfl) (by kernel_rfl) (by kernel_rfl) (by kernel_rfl) ?_;refine re _ _ _ _ fun g=>?_
 by_cases he:a.length=b.length
 ·have h:=E3 hx hy ha he (Q:=fun z H=>handed env 17 z H (aB (decide (a=b)))) a b 0 0 [] rfl rfl (by omega) rfl (fun H'=>by simp)
  have hi:(a.length:Int)=b.length:=by omega
  simp[ah,ai,ae,af,ad, *,jC,hx.r,hy.r,hi]
  exact h
 ·have hne : ¬a=b:=fun e=>he (by rw[e])
  have hi : ¬(a.length:Int)=b.length:=by omega
  simp[ah,ai,ae,af,ad, *,jC,hx.r,hy.r,hi,hne]
end
end Go.Proofs.YtdbiffjdomokfaaGreat
