/-
  audit.Trail. No statement of a seat is proved here.
-/
import Derived.Test.YtdbiffjdomokfaaGreatMAuVc6
import Derived.Test.YtdbiffjdomokfaaGreatLeOnly
set_option linter.unusedVariables false
set_option linter.unusedSimpArgs false
set_option linter.unusedSectionVars false
set_option linter.unnecessarySimpa false
set_option maxRecDepth 100000
namespace Go.Proofs.YtdbiffjdomokfaaGreat
open Go.Ab
attribute [local simp] bD bq bo bF bE cZ ld bQ bx bA dx dw cg bT aY ct List.take_of_length_le
structure jW where
 h:AO
 serial:Int
 code:Int
deriving DecidableEq
def jW.enc(e:jW):AV := .agg [a8 e.h.lv,aF e.h.cats,a8 e.h.num,aI e.serial,aI e.code]
def eE(l:List jW):List AV:=l.map jW.enc
@[simp] theorem oD(l:List jW):(eE l).length=l.length:=by simp[eE]
theorem w8(e:jW)(l:List jW):eE (e :: l)=e.enc :: eE l:=rfl
def cP(l:List (jr × AV)):List jW:=l.filterMap fun p=>if p.1.kind=3 then none else some ⟨p.1.op.h,p.1.op.serial,p.1.code⟩
theorem DX:(Bn env.P 73).bind (eD env.P)=some (.agg [a8 0,aF 0,a8 0,aI 0,aI 0]):=by kernel_rfl
theorem DY{H:ab}{r:Ref}{n:Nat}{cl:Bool}{x:AV}{buf:List AV}(h:H.get r=some (gD n cl (x :: buf))) :
 tJ env.P H 73 (some (.ch r)) true=some (.tup [x,aB true],H.put r (some (gD n cl buf))):=by
 simp only[tJ,DX,tq h];rfl
theorem DZ{H:ab}{r:Ref}{n:Nat}(h:H.get r=some (gD n true [])) :
 tJ env.P H 73 (some (.ch r)) true=some (.tup [.agg [a8 0,aF 0,a8 0,aI 0,aI 0],aB false],H):=by
 simp only[tJ,DX,tq h];rfl
theorem HX{n:Nat}{r:Ref}(hrt:r.t=8){Q:AV→ab→Prop} : ∀(s outs:List jW)(H:ab)(x6:AV),Fr H→H.get r=some (gD n true (eE s))→Own 5 (eE outs) H x6→(∀q,x6.at?=some q→q.t=28)→outs.length+s.length≤1000 →
 (∀H' x',Fr H'→Own 5 (eE (outs++s)) H' x'→Q (.tup [x',aI 0]) H')→bP env Tryz.f10 0 lJ [(6,x6),(21,.ch r)] H Q:=by
 intro s
 induction s with
 | nil =>
  intro outs H x6 hF hr h6 ht hl hQ
  have hfin:=hQ H x6 hF (by simpa using h6)
  refine sa _ _ _ _ fun g=>?_
  refine qa (DZ hr) ?_
  clear hQ
  simp
  exact hfin
 | cons e s ih =>
  intro outs H x6 hF hr h6 ht hl hQ
  have hlr:(H.get r).isSome=true:=by rw[hr];rfl
  have hnx:=fun H' x' h1 h2 h3 h4=>ih (outs++[e]) H' x' h1 h2 h3 h4 (by simp at hl ⊢;omega) (fun H'' x'' g1 g2=>hQ H'' x'' g1 (by simpa using g2))
  have heo:eE (outs++[e])=eE outs++[e.enc]:=by simp[eE]
  rw[heo]at hnx
  have hel:=oD outs
  have hl':outs.length≤1000:=by simp at hl;omega
  clear ih hQ heo hl
  refine sa _ _ _ _ fun g=>?_
  refine qa (DY (by rw[w8]at hr;exact hr)) ?_
  obtain⟨rd,rt,rg,rk⟩:=r
  simp only at hrt
  subst hrt
  generalize eE outs=eo at *
  generalize eE s=es at *
  generalize outs.length=nh at *
  simp only[jW.enc]at hnx ⊢
  obtain⟨⟨a,b,c⟩,d,e⟩:=e
  simp only at hnx ⊢
  rcases h6 with ⟨rfl,h6⟩ | ⟨t,rfl,h6⟩
  ·subst h6
   simp at hel
   subst hel
   simp[hF,hlr,ad]
   refine hnx _ (.cH ⟨0,28,H.gen 0 28,0⟩ 0 1 none) ?_ ?_ (.inr ⟨⟨0,28,H.gen 0 28,0⟩,rfl,?_⟩) (fun q hq=>by cases hq;rfl)
   ·exact by simp(maxDischargeDepth:=12) [ab.get_put,aq,an,Fr.nil,aD,ah,ai,ae,af,ar,ao,ad, *]
   ·exact by simp(maxDischargeDepth:=12) [ab.get_put,aq,an,Fr.nil,aD,ah,ai,ae,af,ar,ao,ad, *]
   ·exact by simp(maxDischargeDepth:=12) [ab.get_put,aq,an,Fr.nil,aD,ah,ai,ae,af,ar,ao,ad, *]
  ·have e28:=ht t rfl
   obtain⟨td,tt,tg,tk⟩:=t
   simp only at e28
   subst e28
   have f6:lQ 5 32 nh true none (some ⟨5,eo,true,false⟩) (some [.agg [a8 a,aF b,a8 c,aI d,aI e]]):=by
    simp;omega
   have l8:(H.get ⟨td,28,tg,tk⟩).isSome=true:=by rw[h6];rfl
   simp[hF,hlr,ad,hel,l8,h6,f6,ab.get_put,ah,ai]
   refine hnx _ (.cH ⟨td,28,H.gen td 28,0⟩ 0 (nh+1) none) ?_ ?_ (.inr ⟨⟨td,28,H.gen td 28,0⟩,by simp[hel],?_⟩) (fun q hq=>by cases hq;rfl)
   ·exact by simp(maxDischargeDepth:=12) [ab.get_put,aq,an,Fr.nil,aD,ah,ai,ae,af,ar,ao,ad, *]
   ·exact by simp(maxDischargeDepth:=12) [ab.get_put,aq,an,Fr.nil,aD,ah,ai,ae,af,ar,ao,ad, *]
   ·exact by simp(maxDischargeDepth:=12) [ab.get_put,aq,an,Fr.nil,aD,ah,ai,ae,af,ar,ao,ad, *]
theorem Na{z:Nat}{es:List AV}{x:AV}(h:Sl z es x):x.one=true:=by
 rcases h with ⟨rfl,_⟩ | ⟨c,rfl,_⟩
 ·rfl
 ·rfl
theorem F1(p:jr × AV)(h:p.2.one=true):nz (p.1.val p.2)=some (if p.1.kind=3 then none else some (jW.enc ⟨p.1.op.h,p.1.op.serial,p.1.code⟩)):=by
 obtain⟨⟨k,u,⟨a1,⟨a2,a3,a4⟩,a5,⟨⟨⟨a6,a7,a8'⟩,a9⟩,a10⟩,⟨⟨a11,a12,a13⟩,a14⟩,⟨a15,a16⟩,al⟩,c,g1,v,w,o⟩,x⟩:=p
 have hk:(0:Int)≤(k.toNat:Int)∧(k.toNat:Int)<256:=by have:=k.toNat_lt;omega
 have h3:((k.toNat:Int)=3)=(k=3):=by
  apply propext
  constructor
  ·intro e
   apply UInt8.toNat_inj.1
   show k.toNat=3
   omega
  ·rintro rfl;rfl
 have e:nz (jr.val ⟨k,u,⟨a1,⟨a2,a3,a4⟩,a5,⟨⟨⟨a6,a7,a8'⟩,a9⟩,a10⟩,⟨⟨a11,a12,a13⟩,a14⟩,⟨a15,a16⟩,al⟩,c,g1,v,w,o⟩ x)=(if ((0:Int)≤(k.toNat:Int)∧(k.toNat:Int)<256)∧flat depth (.agg [a8 a2,aF a3,a8 a4,aI a5,aI c])=true ∧
  [aI u,a8 a1,a8 a2,aF a3,a8 a4,aI a5,a8 a6,aF a7,a8 a8',aI a9,aI a10,a8 a11,aF a12,a8 a13,aI a14,a8 a15,aF a16,x,aI c,aI g1,a8 v,aF w,aB o].all AV.one=true then some (if (k.toNat:Int)=3 then none else some (.agg [a8 a2,aF a3,a8 a4,aI a5,aI c])) else none):=rfl
 have h':x.one=true:=h
 rw[e,if_pos ⟨hk,rfl,by simp[h']⟩]
 simp only[h3,jW.enc]
theorem Ko : ∀(rr:List (jr × AV)),(∀p∈rr,p.2.one=true) →∃l,(cI rr).mapM nz=some l∧l.filterMap id=eE (cP rr):=by
 intro rr
 induction rr with
 | nil=>intro _;exact⟨[],rfl,rfl⟩
 | cons p rr ih =>
  intro h
  obtain⟨l,h1,h2⟩:=ih fun q hq=>h q (List.mem_cons_of_mem _ hq)
  refine⟨(if p.1.kind=3 then none else some (jW.enc ⟨p.1.op.h,p.1.op.serial,p.1.code⟩)) :: l,?_,?_⟩
  ·show(p.1.val p.2 :: cI rr).mapM nz=_
   rw[List.mapM_cons,F1 p (h p (List.mem_cons_self ..)),h1];rfl
  ·by_cases h3:p.1.kind=3
   ·simpa [h3,cP] using h2
   ·simpa [h3,cP,w8] using h2
theorem DQ{rr:List (jr × AV)}{x:AV}(hx:Sl 24 (cI rr) x)(h1 : ∀p∈rr,p.2.one=true)(hl:rr.length≤1000)(H:ab) :
 env.thrSpec 23 [x] H=some (.ch (eI H),keyed (eI H) 0 [gD rr.length true (eE (cP rr))] H):=by
 obtain⟨l,e1,e2⟩:=Ko rr h1
 have hel:=lN rr
 have hs:sc x=some (cI rr):=by
  rcases hx with ⟨rfl,h⟩ | ⟨c,rfl,h⟩
  ·rw[h];rfl
  ·simp only[sc];rw[if_pos (by omega)]
 show xK 23 [x] H=_
 simp only[xK,if_true,xL,hs,e1,e2,hel]
theorem Fb(f:jr × AV→Bool)(hf : ∀p,f (wQ p)=f p) : ∀(l:List (jr × AV)),cP ((l.map wQ).filter f)=cP (l.filter f)
 | []=>rfl
 | p :: l=>by
  have ih:=Fb f hf l
  rw[List.map_cons,List.filter_cons,List.filter_cons,hf p]
  split
  ·by_cases h3:p.1.kind=3
   ·simpa [cP,wQ,h3] using ih
   ·simpa [cP,wQ,h3] using ih
  ·exact ih
theorem Ea{dep:Nat}{f:FuncId}{args:List AV}{H:ab}{z:AV × ab}(h:env.thrSpec f args H=some z):bU env dep (.fn f) args H=some z :=
 qS.2 ⟨0,fun m _=>by unfold eF;simp only[h]⟩
def EF(us:List Clear)(qs:List bz)(gr:Int)(l:List (jr × AV))(v1:UInt8)(v2:UInt32)(y:AV):Prop :=
 if (BM us qs gr l).isSome=true∧v1≤15 then ∃x,Sl 5 (eE (cP (l.filter (eM ⟨v1,v2⟩)))) x∧y = .tup [x,aI 0] else y = .tup [cW,aI 8]
section
variable{xu xq:AV}{us:List Clear}{qs:List bz}{gr:Int}(hu:Sl 3 (eZ us) xu)(hq:Sl 5 (ff qs) xq)(hul:us.length<1000000)(hql:qs.length<1000000){l:List (jr × AV)}{x1:AV}(hx:Sl 24 (cI l) x1)(hall : ∀p∈l,xW p)(hlen:l.length≤1000)
include hu hq hul hql hx hall hlen
theorem EK(v1:UInt8)(v2:UInt32) : ∃y,bj env 10 [.agg [xu,xq,aI gr],x1,.agg [a8 v1,aF v2]]=some y∧EF us qs gr l v1 v2 y:=by
 refine B3 (fn:=Tryz.f10) (c:=qm) (by kernel_rfl) (by kernel_rfl) (by kernel_rfl) (by kernel_rfl) (by kernel_rfl) ?_
 refine Bh _ _ _ _ _ fun g=>?_
 obtain⟨y0,h0,hA⟩:=Mv (gr:=gr) hu hq hul hql hx hall v1 v2
 unfold EF
 unfold JJ at hA
 cases ho:BM us qs gr l with
 | none =>
  rw[ho]at hA
  subst hA
  simp[ah,ai,ae,af,ad, *,n7,hu.r,hq.r,hx.r,h0]
 | some b =>
  rw[ho]at hA
  simp only at hA
  by_cases hv:v1≤15
  ·simp only[hv,if_true]at hA
   obtain⟨x,hs,rfl⟩:=hA
   have hrr : ∀p∈(l.map wQ).filter (eM ⟨v1,v2⟩),p.2.one=true:=by
    intro p hp
    obtain⟨q,hq1,rfl⟩:=List.mem_map.1 (List.mem_filter.1 hp).1
    exact Na (AS (hall q hq1).1)
   have hle:((l.map wQ).filter (eM ⟨v1,v2⟩)).length≤1000:=Nat.le_trans (List.length_filter_le ..) (by simpa using hlen)
   have het:=Fb (eM ⟨v1,v2⟩) (fun p=>rfl) l
   have hlE:(cP (l.filter (eM ⟨v1,v2⟩))).length≤1000:=by
    rw[←het]
    exact Nat.le_trans (List.length_filterMap_le ..) hle
   simp[ah,ai,ae,af,ad, *,n7,hu.r,hq.r,hx.r,hs.r,h0]
   generalize cP (l.filter (eM ⟨v1,v2⟩))=en at *
   refine DL (by kernel_rfl) (Ea (DQ hs hrr hle _)) ?_
   rw[het]
   refine HX (n:=((l.map wQ).filter (eM ⟨v1,v2⟩)).length) rfl en [] _ _ ?_ ?_ (.inl ⟨rfl,rfl⟩) (fun q hq=>by cases hq) (by simpa using hlE) (fun H' x' hF' h=>?_)
   ·exact aq (by simp(maxDischargeDepth:=12) [ab.get_put,aq,an,Fr.nil,aD,ah,ai,ae,af,ar,ao,ad, *]) rfl _
   ·simp[keyed,ab.get,eI]
   ·simp[hv]
    rw[List.nil_append]at h
    have hel:=oD en
    generalize eE en=ee at *
    rcases h with ⟨rfl,h⟩ | ⟨r,rfl,h⟩
    ·simp[h]
    ·simp[h]
  ·simp only[hv,if_false]at hA
   subst hA
   simp[ah,ai,ae,af,ad, *,n7,hu.r,hq.r,hx.r,h0,hv]
end
end Go.Proofs.YtdbiffjdomokfaaGreat
namespace Go.Proofs.YtdbiffjdomokfaaGreat
open Go.Ab
attribute [local simp] bD bq bo bF bE cZ ld bQ bx bA dx dw cg bT aY ct List.take_of_length_le
def qe(e:jW):Bool:=decide (e.serial=0)
def xc(e:jW):Bool := !decide (e.serial=0)&&decide (e.code=0)
def xb(e:jW):Bool := !decide (e.serial=0) && !decide (e.code=0)
theorem RK : ∀(l:List jW),l.countP qe+l.countP xc+l.countP xb=l.length
 | []=>rfl
 | e :: l=>by
  have ih:=RK l
  simp only[List.countP_cons,List.length_cons]
  by_cases h:e.serial=0
  ·simp[qe,xc,xb,h];omega
  ·by_cases h':e.code=0
   ·simp[qe,xc,xb,h,h'];omega
   ·simp[qe,xc,xb,h,h'];omega
theorem yB(k:Int)(h0 : -1000000≤k)(h1:k≤1000000):IntKind.i64.wrap k=k:=IntWalk.i64_in k (by omega)
theorem Hw{n:Nat}{es8:List AV}{x8:AV}(h8:Sl 24 es8 x8)(hm:es8.length≤1000){r q:Ref}(hrt:r.t=8)(hqt:q.t=6){Q:AV→ab→Prop} : ∀(s:List jW)(a b c:Nat)(H:ab),Fr H→H.get r=some (gD n true (eE s)) →
 H.get q=some ⟨4,[.agg [aI a,aI b,aI c,aI 0]],false,false⟩→a+b+c+s.length≤1000 →
 (∀H' (x y z:Nat),x=a+s.countP qe→y=b+s.countP xc→z=c+s.countP xb→Q (.tup [.agg [aI x,aI y,aI z,aI (es8.length - x - y - z)],aI 0]) H') →
 bP env Tryz.f7 0 gI [(6,.ptr q 0 0),(8,x8),(22,.ch r)] H Q:=by
 intro s
 induction s with
 | nil =>
  intro a b c H hF hr hq hl hQ
  have hfin:=fun H'=>hQ H' a b c (by simp) (by simp) (by simp)
  refine qI _ _ _ _ _ fun g=>?_
  refine qa (DZ hr) ?_
  have hlq:(H.get q).isSome=true:=by rw[hq];rfl
  have e1:=yB ((es8.length:Int) - a) (by omega) (by simp at hl;omega)
  have e2:=yB ((es8.length:Int) - a - b) (by simp at hl;omega) (by simp at hl;omega)
  have e3:=yB ((es8.length:Int) - a - b - c) (by simp at hl;omega) (by simp at hl;omega)
  clear hQ
  simp[h8.r,hq,hlq,ab.get_put,ad,e1,e2,e3]
  exact hfin _
 | cons e s ih =>
  intro a b c H hF hr hq hl hQ
  have hlr:(H.get r).isSome=true:=by rw[hr];rfl
  have hlq:(H.get q).isSome=true:=by rw[hq];rfl
  have hne : ¬r=q:=fun e=>by rw[e]at hrt;omega
  have hne' : ¬q=r:=fun e=>hne e.symm
  have n9:((⟨0,9,H.gen 0 9,0⟩:Ref)=q)=False:=ah hF hlq 0 9 0
  have n9':(q=(⟨0,9,H.gen 0 9,0⟩:Ref))=False:=eq_false fun e=>cast n9 e.symm
  have r9:((⟨0,9,H.gen 0 9,0⟩:Ref)=r)=False:=ah hF hlr 0 9 0
  have r9':(r=(⟨0,9,H.gen 0 9,0⟩:Ref))=False:=eq_false fun e=>cast r9 e.symm
  have ea:=yB ((a:Int)+1) (by omega) (by simp at hl;omega)
  have eb:=yB ((b:Int)+1) (by omega) (by simp at hl;omega)
  have ec:=yB ((c:Int)+1) (by omega) (by simp at hl;omega)
  refine qI _ _ _ _ _ fun g=>?_
  refine qa (DY (by rw[w8]at hr;exact hr)) ?_
  by_cases h0:e.serial=0
  ·have hn:=fun H' u1 u2 u3=>ih (a+1) b c H' u1 u2 u3 (by simp at hl;omega) (fun H'' x y z hx hy hz=>hQ H'' x y z (by rw[List.countP_cons,show qe e=true from by simp[qe,h0]];simp only[if_true,Bool.false_eq_true,if_false];omega) (by rw[List.countP_cons,show xc e=false from by simp[xc,h0]];simp only[if_true,Bool.false_eq_true,if_false];omega) (by rw[List.countP_cons,show xb e=false from by simp[xb,h0]];simp only[if_true,Bool.false_eq_true,if_false];omega))
   clear ih hQ hl
   obtain⟨⟨h_1,h_2,h_3⟩,sr,cd⟩:=e
   simp only at h0
   subst h0
   generalize eE s=es at *
   simp[jW.enc,hF,hlr,hlq,hq,hne,hne',n9,n9',r9,r9',ad,ab.get_put,ea]
   refine hn _ ?_ ?_ ?_
   ·refine aq (aD (aD hF hlr _) (by simp[ab.get_put,hne',hlq]) _) ?_ _
    simp[ad,hlr,hlq,ab.get_put,hne']
   ·simp[ab.get_put,hne,hne',r9]
   ·simp[ab.get_put,hne,hne',n9]
  ·by_cases h1:e.code=0
   ·have hn:=fun H' u1 u2 u3=>ih a (b+1) c H' u1 u2 u3 (by simp at hl;omega) (fun H'' x y z hx hy hz=>hQ H'' x y z (by rw[List.countP_cons,show qe e=false from by simp[qe,h0,h1]];simp only[if_true,Bool.false_eq_true,if_false];omega) (by rw[List.countP_cons,show xc e=true from by simp[xc,h0,h1]];simp only[if_true,Bool.false_eq_true,if_false];omega) (by rw[List.countP_cons,show xb e=false from by simp[xb,h0,h1]];simp only[if_true,Bool.false_eq_true,if_false];omega))
    clear ih hQ hl
    obtain⟨⟨h_1,h_2,h_3⟩,sr,cd⟩:=e
    simp only at h0 h1
    subst h1
    generalize eE s=es at *
    simp[jW.enc,hF,hlr,hlq,hq,hne,hne',n9,n9',r9,r9',ad,ab.get_put,eb,h0]
    refine hn _ ?_ ?_ ?_
    ·refine aq (aD (aD hF hlr _) (by simp[ab.get_put,hne',hlq]) _) ?_ _
     simp[ad,hlr,hlq,ab.get_put,hne']
    ·simp[ab.get_put,hne,hne',r9]
    ·simp[ab.get_put,hne,hne',n9]
   ·have hn:=fun H' u1 u2 u3=>ih a b (c+1) H' u1 u2 u3 (by simp at hl;omega) (fun H'' x y z hx hy hz=>hQ H'' x y z (by rw[List.countP_cons,show qe e=false from by simp[qe,h0,h1]];simp only[if_true,Bool.false_eq_true,if_false];omega) (by rw[List.countP_cons,show xc e=false from by simp[xc,h0,h1]];simp only[if_true,Bool.false_eq_true,if_false];omega) (by rw[List.countP_cons,show xb e=true from by simp[xb,h0,h1]];simp only[if_true,Bool.false_eq_true,if_false];omega))
    clear ih hQ hl
    obtain⟨⟨h_1,h_2,h_3⟩,sr,cd⟩:=e
    simp only at h0 h1
    generalize eE s=es at *
    simp[jW.enc,hF,hlr,hlq,hq,hne,hne',n9,n9',r9,r9',ad,ab.get_put,ec,h0,h1]
    refine hn _ ?_ ?_ ?_
    ·refine aq (aD (aD hF hlr _) (by simp[ab.get_put,hne',hlq]) _) ?_ _
     simp[ad,hlr,hlq,ab.get_put,hne']
    ·simp[ab.get_put,hne,hne',r9]
    ·simp[ab.get_put,hne,hne',n9]
def Cy(en:List jW)(n:Nat):AV := .agg [aI (en.countP qe),aI (en.countP xc),aI (en.countP xb),aI ((n:Int) - en.countP qe - en.countP xc - en.countP xb)]
def AX(us:List Clear)(qs:List bz)(gr:Int)(l:List (jr × AV))(v1:UInt8)(v2:UInt32):AV :=
 if (BM us qs gr l).isSome=true∧v1≤15 then .tup [Cy (cP (l.filter (eM ⟨v1,v2⟩))) (l.filter (eM ⟨v1,v2⟩)).length,aI 0] else .tup [.agg [aI 0,aI 0,aI 0,aI 0],aI 8]
theorem NB(f:jr × AV→Bool)(hf : ∀p,f (wQ p)=f p) : ∀(l:List (jr × AV)),((l.map wQ).filter f).length=(l.filter f).length
 | []=>rfl
 | p :: l=>by
  have ih:=NB f hf l
  rw[List.map_cons,List.filter_cons,List.filter_cons,hf p]
  split
  ·simp[ih]
  ·exact ih
section
variable{xu xq:AV}{us:List Clear}{qs:List bz}{gr:Int}(hu:Sl 3 (eZ us) xu)(hq:Sl 5 (ff qs) xq)(hul:us.length<1000000)(hql:qs.length<1000000){l:List (jr × AV)}{x1:AV}(hx:Sl 24 (cI l) x1)(hall : ∀p∈l,xW p)(hlen:l.length≤1000)
include hu hq hul hql hx hall hlen
theorem F9(v1:UInt8)(v2:UInt32):bj env 7 [.agg [xu,xq,aI gr],x1,.agg [a8 v1,aF v2]]=some (AX us qs gr l v1 v2):=by
 refine aL (fn:=Tryz.f7) (c:=po) (by kernel_rfl) (by kernel_rfl) (by kernel_rfl) (by kernel_rfl) (by kernel_rfl) ?_
 refine Ay _ _ _ _ _ fun g=>?_
 obtain⟨y0,h0,hA⟩:=Mv (gr:=gr) hu hq hul hql hx hall v1 v2
 unfold AX
 unfold JJ at hA
 cases ho:BM us qs gr l with
 | none =>
  rw[ho]at hA
  subst hA
  simp[ah,ai,ae,af,ad, *,mK,hu.r,hq.r,hx.r,h0]
 | some b =>
  rw[ho]at hA
  simp only at hA
  by_cases hv:v1≤15
  ·simp only[hv,if_true]at hA
   obtain⟨x,hs,rfl⟩:=hA
   have hrr : ∀p∈(l.map wQ).filter (eM ⟨v1,v2⟩),p.2.one=true:=by
    intro p hp
    obtain⟨q,hq1,rfl⟩:=List.mem_map.1 (List.mem_filter.1 hp).1
    exact Na (AS (hall q hq1).1)
   have hle:((l.map wQ).filter (eM ⟨v1,v2⟩)).length≤1000:=Nat.le_trans (List.length_filter_le ..) (by simpa using hlen)
   have het:=Fb (eM ⟨v1,v2⟩) (fun p=>rfl) l
   have hlt:=NB (eM ⟨v1,v2⟩) (fun p=>rfl) l
   have hlE:(cP (l.filter (eM ⟨v1,v2⟩))).length≤1000:=by
    rw[←het]
    exact Nat.le_trans (List.length_filterMap_le ..) hle
   simp[ah,ai,ae,af,ad, *,mK,hu.r,hq.r,hx.r,hs.r,h0]
   generalize cP (l.filter (eM ⟨v1,v2⟩))=en at *
   refine DL (by kernel_rfl) (Ea (DQ hs hrr hle _)) ?_
   rw[het]
   have hel:(cI ((l.map wQ).filter (eM ⟨v1,v2⟩))).length=(l.filter (eM ⟨v1,v2⟩)).length:=by rw[lN,hlt]
   refine Hw hs (by rw[hel];omega) (n:=((l.map wQ).filter (eM ⟨v1,v2⟩)).length) rfl rfl en 0 0 0 _ ?_ ?_ ?_ (by simpa using hlE) (fun H' a b c ha hb hc=>?_)
   ·exact aq (by simp(maxDischargeDepth:=12) [ab.get_put,aq,an,Fr.nil,aD,ah,ai,ae,af,ar,ao,ad, *]) rfl _
   ·simp[keyed,ab.get,eI]
   ·simp[keyed,ab.get,eI]
   ·simp at ha hb hc
    subst ha hb hc
    rw[hel]
    simp[hv,Cy]
  ·simp only[hv,if_false]at hA
   subst hA
   simp[ah,ai,ae,af,ad, *,mK,hu.r,hq.r,hx.r,h0,hv]
end
end Go.Proofs.YtdbiffjdomokfaaGreat
namespace Go.Proofs.YtdbiffjdomokfaaGreat
open Go.Ab
attribute [local simp] bD bq bo bF bE cZ ld bQ bx bA dx dw cg bT aY ct List.take_of_length_le
@[simp] theorem R9:bj env 19 []=some (.agg [a8 15,aF 4294967295]):=by
 refine aL (fn:=Tryz.f19) (c:=q9) rfl (by kernel_rfl) (by kernel_rfl) (by kernel_rfl) (by kernel_rfl) ?_;refine xA _ _ fun g=>?_
 simp[ah,ai,ae,af,ad, *,rq]
theorem Xq(a b:jW):mf env.P 20 67 [a8 a.h.lv,aF a.h.cats,a8 a.h.num,aI a.serial,aI a.code] [a8 b.h.lv,aF b.h.cats,a8 b.h.num,aI b.serial,aI b.code]=some (decide (a=b)):=by
 obtain⟨⟨a1,a2,a3⟩,a4,a5⟩:=a
 obtain⟨⟨b1,b2,b3⟩,b4,b5⟩:=b
 simp[mf,gb,and_assoc,Bool.and_assoc]
theorem ZC:AH env.P 67=true:=by kernel_rfl
theorem QX(a b:jW)(xo yo:Operand):aE env.P .neq 67 xo yo (some (.agg [a8 a.h.lv,aF a.h.cats,a8 a.h.num,aI a.serial,aI a.code])) (some (.agg [a8 b.h.lv,aF b.h.cats,a8 b.h.num,aI b.serial,aI b.code]))=some (aB (!decide (a=b)),[]):=by
 rw[BG ZC .neq (.inr rfl) xo yo (Xq a b) rfl rfl (by kernel_rfl) (by kernel_rfl)];rfl
section
variable{x y:AV}{a b:List jW}(hx:Sl 5 (eE a) x)(hy:Sl 5 (eE b) y)(ha:a.length≤1000000)
include hx hy ha
theorem F2(he:a.length=b.length){Q:AV→ab→Prop} : ∀(s t:List jW)(k:Nat)(i:Int)(H:ab),a.drop k=s→b.drop k=t→k≤a.length→i=k →
 (∀H',Q (aB (decide (s=t))) H')→bP env Tryz.f17 0 fM [(5,aI i),(1,y),(0,x)] H Q:=by
 intro s
 induction s with
 | nil =>
  rintro t k i H hs ht hk rfl hQ
  obtain rfl:=drop_nil hs hk
  obtain rfl:t=[]:=by rw[←ht,he];simp
  have hfin:=hQ H
  refine lS _ _ _ _ _ fun g=>?_
  simp[ah,ai,ae,af,ad, *,iX,hx.r]
  simpa using hfin
 | cons e s ih =>
  rintro t k i H hs ht hk rfl hQ
  obtain⟨hlt,hg,hs',hg'⟩:=drop_cons hs
  match t,ht,hQ with
  | [],ht,hQ =>
   have:=congrArg List.length ht
   simp at this;omega
  | e2 :: t,ht,hQ =>
  obtain⟨hlt2,hg2,ht',hg2'⟩:=drop_cons ht
  have e3:=IntWalk.i64_in ((k:Int)+1) (by omega)
  have hrd:dX (eE a) k 0 5 true=some e.enc:=by simp[eE,hg',jW.enc]
  have hrd2:dX (eE b) k 0 5 true=some e2.enc:=by simp[eE,hg2',jW.enc]
  have hrec:=fun H' (h:e=e2)=>ih t (k+1) _ H' hs' ht' (by omega) rfl (fun H''=>by have:=hQ H'';rw[h]at this;simpa using this)
  have hno:=fun H' (h : ¬e=e2)=>(by have:=hQ H';simpa [h] using this:Q (aB false) H')
  refine lS _ _ _ _ _ fun g=>?_
  clear ih hQ hs ht hs' ht' hg hg2 hg' hg2'
  simp[ah,ai,ae,af,ad, *,iX,hx.r,hy.r,hx.idx,hy.idx,hlt,hlt2,hrd,hrd2,jW.enc,QX,e3]
  refine k5 (fun h=>?_) (fun h=>?_)
  ·exact hno _ (by simpa using h)
  ·simp[e3];simpa using hrec _ (by simpa using h)
theorem F4:bj env 17 [x,y]=some (aB (decide (a=b))):=by
 refine aL (fn:=Tryz.f17) (c:=jO) rfl (by kernel_rfl) (by kernel_rfl) (by kernel_rfl) (by kernel_rfl) ?_;refine r8 _ _ _ _ fun g=>?_
 by_cases he:a.length=b.length
 ·have h:=F2 hx hy ha he (Q:=fun z H=>handed env 17 z H (aB (decide (a=b)))) a b 0 0 [] rfl rfl (by omega) rfl (fun H'=>by simp)
  have hi:(a.length:Int)=b.length:=by omega
  simp[ah,ai,ae,af,ad, *,jV,hx.r,hy.r,hi]
  exact h
 ·have hne : ¬a=b:=fun e=>he (by rw[e])
  have hi : ¬(a.length:Int)=b.length:=by omega
  simp[ah,ai,ae,af,ad, *,jV,hx.r,hy.r,hi,hne]
end
end Go.Proofs.YtdbiffjdomokfaaGreat
