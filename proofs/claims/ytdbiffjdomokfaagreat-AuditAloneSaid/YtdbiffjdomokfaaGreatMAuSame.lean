/-
  audit.Trail. No statement of a seat is proved here.
-/
import Derived.Test.YtdbiffjdomokfaaGreatMAuVc6
import Derived.Test.YtdbiffjdomokfaaGreatLeOnly
set_option linter.unusedVariables false
set_option linter.unusedSimpArgs false
set_option linter.unusedSectionVars false
set_option linter.unnecessarySimpa false
set_option maxRecDepth 100000
namespace Go.Proofs.YtdbiffjdomokfaaGreat
open Go.Ab
attribute [local simp] bD bp bl bC bB cV lj bP bt bA dc db cg bR aV cm List.take_of_length_le
structure m0 where
 h:vU
 serial:Int
 code:Int
deriving DecidableEq
def m0.enc(e:m0):AV := .agg [a8 e.h.lv,aG e.h.cats,a8 e.h.num,aI e.serial,aI e.code]
def gN(l:List m0):List AV:=l.map m0.enc
@[simp] theorem EX(l:List m0):(gN l).length=l.length:=by simp[gN]
theorem xH(e:m0)(l:List m0):gN (e :: l)=e.enc :: gN l:=rfl
def fe(l:List (gA × AV)):List m0:=l.filterMap fun p=>if p.1.kind=3 then none else some ⟨p.1.op.h,p.1.op.serial,p.1.code⟩
theorem Ez:(BP env.P 73).bind (eG env.P)=some (.agg [a8 0,aG 0,a8 0,aI 0,aI 0]):=by kernel_rfl
theorem EA{H:ab}{r:Ref}{n:Nat}{cl:Bool}{x:AV}{buf:List AV}(h:H.get r=some (gG n cl (x :: buf))) :
 ue env.P H 73 (some (.ch r)) true=some (.tup [x,aB true],H.put r (some (gG n cl buf))):=by
 simp only[ue,Ez,tK h];rfl
theorem EB{H:ab}{r:Ref}{n:Nat}(h:H.get r=some (gG n true [])) :
 ue env.P H 73 (some (.ch r)) true=some (.tup [.agg [a8 0,aG 0,a8 0,aI 0,aI 0],aB false],H):=by
 simp only[ue,Ez,tK h];rfl
theorem IP{n:Nat}{r:Ref}(hrt:r.t=8){Q:AV→ab→Prop} : ∀(s outs:List m0)(H:ab)(x6:AV),Fr H→H.get r=some (gG n true (gN s))→Own 5 (gN outs) H x6→(∀q,x6.at?=some q→q.t=28)→outs.length+s.length≤1000 →
 (∀H' x',Fr H'→Own 5 (gN (outs++s)) H' x'→Q (.tup [x',aI 0]) H')→bT env Tryz.f10 0 lR [(6,x6),(21,.ch r)] H Q:=by
 intro s
 induction s with
 | nil =>
  intro outs H x6 hF hr h6 ht hl hQ
  have hfin:=hQ H x6 hF (by simpa using h6)
  refine sA _ _ _ _ fun g=>?_
  refine pH (EB hr) ?_
  clear hQ
  simp
  exact hfin
 | cons e s ih =>
  intro outs H x6 hF hr h6 ht hl hQ
  have hlr:(H.get r).isSome=true:=by rw[hr];rfl
  have hnx:=fun H' x' h1 h2 h3 h4=>ih (outs++[e]) H' x' h1 h2 h3 h4 (by simp at hl ⊢;omega) (fun H'' x'' g1 g2=>hQ H'' x'' g1 (by simpa using g2))
  have heo:gN (outs++[e])=gN outs++[e.enc]:=by simp[gN]
  rw[heo]at hnx
  have hel:=EX outs
  have hl':outs.length≤1000:=by simp at hl;omega
  clear ih hQ heo hl
  refine sA _ _ _ _ fun g=>?_
  refine pH (EA (by rw[xH]at hr;exact hr)) ?_
  obtain⟨rd,rt,rg,rk⟩:=r
  simp only at hrt
  subst hrt
  generalize gN outs=eo at *
  generalize gN s=es at *
  generalize outs.length=nh at *
  simp only[m0.enc]at hnx ⊢
  obtain⟨⟨a,b,c⟩,d,e⟩:=e
  simp only at hnx ⊢
  rcases h6 with ⟨rfl,h6⟩ | ⟨t,rfl,h6⟩
  ·subst h6
   simp at hel
   subst hel
   simp[hF,hlr,ad]
   refine hnx _ (.cM ⟨0,28,H.gen 0 28,0⟩ 0 1 none) ?_ ?_ (.inr ⟨⟨0,28,H.gen 0 28,0⟩,rfl,?_⟩) (fun q hq=>by cases hq;rfl)
   ·exact by simp(maxDischargeDepth:=12) [ab.get_put,aq,an,Fr.nil,aD,ah,ai,ae,af,ar,ao,ad, *]
   ·exact by simp(maxDischargeDepth:=12) [ab.get_put,aq,an,Fr.nil,aD,ah,ai,ae,af,ar,ao,ad, *]
   ·exact by simp(maxDischargeDepth:=12) [ab.get_put,aq,an,Fr.nil,aD,ah,ai,ae,af,ar,ao,ad, *]
  ·have e28:=ht t rfl
   obtain⟨td,tt,tg,tk⟩:=t
   simp only at e28
   subst e28
   have f6:mN 5 32 nh true none (some ⟨5,eo,true,false⟩) (some [.agg [a8 a,aG b,a8 c,aI d,aI e]]):=by
    simp;omega
   have l8:(H.get ⟨td,28,tg,tk⟩).isSome=true:=by rw[h6];rfl
   simp[hF,hlr,ad,hel,l8,h6,f6,ab.get_put,ah,ai]
   refine hnx _ (.cM ⟨td,28,H.gen td 28,0⟩ 0 (nh+1) none) ?_ ?_ (.inr ⟨⟨td,28,H.gen td 28,0⟩,by simp[hel],?_⟩) (fun q hq=>by cases hq;rfl)
   ·exact by simp(maxDischargeDepth:=12) [ab.get_put,aq,an,Fr.nil,aD,ah,ai,ae,af,ar,ao,ad, *]
   ·exact by simp(maxDischargeDepth:=12) [ab.get_put,aq,an,Fr.nil,aD,ah,ai,ae,af,ar,ao,ad, *]
   ·exact by simp(maxDischargeDepth:=12) [ab.get_put,aq,an,Fr.nil,aD,ah,ai,ae,af,ar,ao,ad, *]
theorem N0{z:Nat}{es:List AV}{x:AV}(h:Sl z es x):x.one=true:=by
 rcases h with ⟨rfl,_⟩ | ⟨c,rfl,_⟩
 ·rfl
 ·rfl
theorem GI(p:gA × AV)(h:p.2.one=true):nI (p.1.val p.2)=some (if p.1.kind=3 then none else some (m0.enc ⟨p.1.op.h,p.1.op.serial,p.1.code⟩)):=by
 obtain⟨⟨k,u,⟨a1,⟨a2,a3,a4⟩,a5,⟨⟨⟨a6,a7,a8'⟩,a9⟩,a10⟩,⟨⟨a11,a12,a13⟩,a14⟩,⟨a15,a16⟩,al⟩,c,g1,v,w,o⟩,x⟩:=p
 have hk:(0:Int)≤(k.toNat:Int)∧(k.toNat:Int)<256:=by have:=k.toNat_lt;omega
 have h3:((k.toNat:Int)=3)=(k=3):=by
  apply propext
  constructor
  ·intro e
   apply UInt8.toNat_inj.1
   show k.toNat=3
   omega
  ·rintro rfl;rfl
 have e:nI (gA.val ⟨k,u,⟨a1,⟨a2,a3,a4⟩,a5,⟨⟨⟨a6,a7,a8'⟩,a9⟩,a10⟩,⟨⟨a11,a12,a13⟩,a14⟩,⟨a15,a16⟩,al⟩,c,g1,v,w,o⟩ x)=(if ((0:Int)≤(k.toNat:Int)∧(k.toNat:Int)<256)∧flat depth (.agg [a8 a2,aG a3,a8 a4,aI a5,aI c])=true ∧
  [aI u,a8 a1,a8 a2,aG a3,a8 a4,aI a5,a8 a6,aG a7,a8 a8',aI a9,aI a10,a8 a11,aG a12,a8 a13,aI a14,a8 a15,aG a16,x,aI c,aI g1,a8 v,aG w,aB o].all AV.one=true then some (if (k.toNat:Int)=3 then none else some (.agg [a8 a2,aG a3,a8 a4,aI a5,aI c])) else none):=rfl
 have h':x.one=true:=h
 rw[e,if_pos ⟨hk,rfl,by simp[h']⟩]
 simp only[h3,m0.enc]
theorem Lc : ∀(rr:List (gA × AV)),(∀p∈rr,p.2.one=true) →∃l,(bU rr).mapM nI=some l∧l.filterMap id=gN (fe rr):=by
 intro rr
 induction rr with
 | nil=>intro _;exact⟨[],rfl,rfl⟩
 | cons p rr ih =>
  intro h
  obtain⟨l,h1,h2⟩:=ih fun q hq=>h q (List.mem_cons_of_mem _ hq)
  refine⟨(if p.1.kind=3 then none else some (m0.enc ⟨p.1.op.h,p.1.op.serial,p.1.code⟩)) :: l,?_,?_⟩
  ·show(p.1.val p.2 :: bU rr).mapM nI=_
   rw[List.mapM_cons,GI p (h p (List.mem_cons_self ..)),h1];rfl
  ·by_cases h3:p.1.kind=3
   ·simpa [h3,fe] using h2
   ·simpa [h3,fe,xH] using h2
theorem En{rr:List (gA × AV)}{x:AV}(hx:Sl 24 (bU rr) x)(h1 : ∀p∈rr,p.2.one=true)(hl:rr.length≤1000)(H:ab) :
 env.thrSpec 23 [x] H=some (.ch (eK H),keyed (eK H) 0 [gG rr.length true (gN (fe rr))] H):=by
 obtain⟨l,e1,e2⟩:=Lc rr h1
 have hel:=kW rr
 have hs:sD x=some (bU rr):=by
  rcases hx with ⟨rfl,h⟩ | ⟨c,rfl,h⟩
  ·rw[h];rfl
  ·simp only[sD];rw[if_pos (by omega)]
 show yi 23 [x] H=_
 simp only[yi,if_true,yj,hs,e1,e2,hel]
theorem Bo(f:gA × AV→Bool)(hf : ∀p,f (uI p)=f p) : ∀(l:List (gA × AV)),fe ((l.map uI).filter f)=fe (l.filter f)
 | []=>rfl
 | p :: l=>by
  have ih:=Bo f hf l
  rw[List.map_cons,List.filter_cons,List.filter_cons,hf p]
  split
  ·by_cases h3:p.1.kind=3
   ·simpa [fe,uI,h3] using ih
   ·simpa [fe,uI,h3] using ih
  ·exact ih
theorem EL{dep:Nat}{f:FuncId}{args:List AV}{H:ab}{z:AV × ab}(h:env.thrSpec f args H=some z):bV env dep (.fn f) args H=some z :=
 rp.2 ⟨0,fun m _=>by unfold eH;simp only[h]⟩
def zI(us:List Clear)(qs:List bu)(gr:Int)(l:List (gA × AV))(v1:UInt8)(v2:UInt32)(y:AV):Prop :=
 if (yE us qs gr l).isSome=true∧v1≤15 then ∃x,Sl 5 (gN (fe (l.filter (cN ⟨v1,v2⟩)))) x∧y = .tup [x,aI 0] else y = .tup [cP,aI 8]
section
variable{xu xq:AV}{us:List Clear}{qs:List bu}{gr:Int}(hu:Sl 3 (eW us) xu)(hq:Sl 5 (eY qs) xq)(hul:us.length<1000000)(hql:qs.length<1000000){l:List (gA × AV)}{x1:AV}(hx:Sl 24 (bU l) x1)(hall : ∀p∈l,uJ p)(hlen:l.length≤1000)
include hu hq hul hql hx hall hlen
theorem ym(v1:UInt8)(v2:UInt32) : ∃y,bj env 10 [.agg [xu,xq,aI gr],x1,.agg [a8 v1,aG v2]]=some y∧zI us qs gr l v1 v2 y:=by
 refine Cu (fn:=Tryz.f10) (c:=qG) (by kernel_rfl) (by kernel_rfl) (by kernel_rfl) (by kernel_rfl) (by kernel_rfl) ?_
 refine BI _ _ _ _ _ fun g=>?_
 obtain⟨y0,h0,hA⟩:=I3 (gr:=gr) hu hq hul hql hx hall v1 v2
 unfold zI
 unfold Hd at hA
 cases ho:yE us qs gr l with
 | none =>
  rw[ho]at hA
  subst hA
  simp[ah,ai,ae,af,ad, *,ow,hu.r,hq.r,hx.r,h0]
 | some b =>
  rw[ho]at hA
  simp only at hA
  by_cases hv:v1≤15
  ·simp only[hv,if_true]at hA
   obtain⟨x,hs,rfl⟩:=hA
   have hrr : ∀p∈(l.map uI).filter (cN ⟨v1,v2⟩),p.2.one=true:=by
    intro p hp
    obtain⟨q,hq1,rfl⟩:=List.mem_map.1 (List.mem_filter.1 hp).1
    exact N0 (yf (hall q hq1).1)
   have hle:((l.map uI).filter (cN ⟨v1,v2⟩)).length≤1000:=Nat.le_trans (List.length_filter_le ..) (by simpa using hlen)
   have het:=Bo (cN ⟨v1,v2⟩) (fun p=>rfl) l
   have hlE:(fe (l.filter (cN ⟨v1,v2⟩))).length≤1000:=by
    rw[←het]
    exact Nat.le_trans (List.length_filterMap_le ..) hle
   simp[ah,ai,ae,af,ad, *,ow,hu.r,hq.r,hx.r,hs.r,h0]
   generalize fe (l.filter (cN ⟨v1,v2⟩))=en at *
   refine BO (by kernel_rfl) (EL (En hs hrr hle _)) ?_
   rw[het]
   refine IP (n:=((l.map uI).filter (cN ⟨v1,v2⟩)).length) rfl en [] _ _ ?_ ?_ (.inl ⟨rfl,rfl⟩) (fun q hq=>by cases hq) (by simpa using hlE) (fun H' x' hF' h=>?_)
   ·exact aq (by simp(maxDischargeDepth:=12) [ab.get_put,aq,an,Fr.nil,aD,ah,ai,ae,af,ar,ao,ad, *]) rfl _
   ·simp[keyed,ab.get,eK]
   ·simp[hv]
    rw[List.nil_append]at h
    have hel:=EX en
    generalize gN en=ee at *
    rcases h with ⟨rfl,h⟩ | ⟨r,rfl,h⟩
    ·simp[h]
    ·simp[h]
  ·simp only[hv,if_false]at hA
   subst hA
   simp[ah,ai,ae,af,ad, *,ow,hu.r,hq.r,hx.r,h0,hv]
end
end Go.Proofs.YtdbiffjdomokfaaGreat
namespace Go.Proofs.YtdbiffjdomokfaaGreat
open Go.Ab
attribute [local simp] bD bp bl bC bB cV lj bP bt bA dc db cg bR aV cm List.take_of_length_le
def zj(e:m0):Bool:=decide (e.serial=0)
def F6(e:m0):Bool := !decide (e.serial=0)&&decide (e.code=0)
def F5(e:m0):Bool := !decide (e.serial=0) && !decide (e.code=0)
theorem JE(k:Int)(h0 : -1000000≤k)(h1:k≤1000000):IntKind.i64.wrap k=k:=IntWalk.i64_in k (by omega)
theorem Il{n:Nat}{es8:List AV}{x8:AV}(h8:Sl 24 es8 x8)(hm:es8.length≤1000){r q:Ref}(hrt:r.t=8)(hqt:q.t=6){Q:AV→ab→Prop} : ∀(s:List m0)(a b c:Nat)(H:ab),Fr H→H.get r=some (gG n true (gN s)) →
 H.get q=some ⟨4,[.agg [aI a,aI b,aI c,aI 0]],false,false⟩→a+b+c+s.length≤1000 →
 (∀H' (x y z:Nat),x=a+s.countP zj→y=b+s.countP F6→z=c+s.countP F5→Q (.tup [.agg [aI x,aI y,aI z,aI (es8.length - x - y - z)],aI 0]) H') →
 bT env Tryz.f7 0 gM [(6,.ptr q 0 0),(8,x8),(22,.ch r)] H Q:=by
 intro s
 induction s with
 | nil =>
  intro a b c H hF hr hq hl hQ
  have hfin:=fun H'=>hQ H' a b c (by simp) (by simp) (by simp)
  refine qY _ _ _ _ _ fun g=>?_
  refine pH (EB hr) ?_
  have hlq:(H.get q).isSome=true:=by rw[hq];rfl
  have e1:=JE ((es8.length:Int) - a) (by omega) (by simp at hl;omega)
  have e2:=JE ((es8.length:Int) - a - b) (by simp at hl;omega) (by simp at hl;omega)
  have e3:=JE ((es8.length:Int) - a - b - c) (by simp at hl;omega) (by simp at hl;omega)
  clear hQ
  simp[h8.r,hq,hlq,ab.get_put,ad,e1,e2,e3]
  exact hfin _
 | cons e s ih =>
  intro a b c H hF hr hq hl hQ
  have hlr:(H.get r).isSome=true:=by rw[hr];rfl
  have hlq:(H.get q).isSome=true:=by rw[hq];rfl
  have hne : ¬r=q:=fun e=>by rw[e]at hrt;omega
  have hne' : ¬q=r:=fun e=>hne e.symm
  have n9:((⟨0,9,H.gen 0 9,0⟩:Ref)=q)=False:=ah hF hlq 0 9 0
  have n9':(q=(⟨0,9,H.gen 0 9,0⟩:Ref))=False:=eq_false fun e=>cast n9 e.symm
  have r9:((⟨0,9,H.gen 0 9,0⟩:Ref)=r)=False:=ah hF hlr 0 9 0
  have r9':(r=(⟨0,9,H.gen 0 9,0⟩:Ref))=False:=eq_false fun e=>cast r9 e.symm
  have ea:=JE ((a:Int)+1) (by omega) (by simp at hl;omega)
  have eb:=JE ((b:Int)+1) (by omega) (by simp at hl;omega)
  have ec:=JE ((c:Int)+1) (by omega) (by simp at hl;omega)
  refine qY _ _ _ _ _ fun g=>?_
  refine pH (EA (by rw[xH]at hr;exact hr)) ?_
  by_cases h0:e.serial=0
  ·have hn:=fun H' u1 u2 u3=>ih (a+1) b c H' u1 u2 u3 (by simp at hl;omega) (fun H'' x y z hx hy hz=>hQ H'' x y z (by rw[List.countP_cons,show zj e=true from by simp[zj,h0]];simp only[if_true,Bool.false_eq_true,if_false];omega) (by rw[List.countP_cons,show F6 e=false from by simp[F6,h0]];simp only[if_true,Bool.false_eq_true,if_false];omega) (by rw[List.countP_cons,show F5 e=false from by simp[F5,h0]];simp only[if_true,Bool.false_eq_true,if_false];omega))
   clear ih hQ hl
   obtain⟨⟨h_1,h_2,h_3⟩,sr,cd⟩:=e
   simp only at h0
   subst h0
   generalize gN s=es at *
   simp[m0.enc,hF,hlr,hlq,hq,hne,hne',n9,n9',r9,r9',ad,ab.get_put,ea]
   refine hn _ ?_ ?_ ?_
   ·refine aq (aD (aD hF hlr _) (by simp[ab.get_put,hne',hlq]) _) ?_ _
    simp[ad,hlr,hlq,ab.get_put,hne']
   ·simp[ab.get_put,hne,hne',r9]
   ·simp[ab.get_put,hne,hne',n9]
  ·by_cases h1:e.code=0
   ·have hn:=fun H' u1 u2 u3=>ih a (b+1) c H' u1 u2 u3 (by simp at hl;omega) (fun H'' x y z hx hy hz=>hQ H'' x y z (by rw[List.countP_cons,show zj e=false from by simp[zj,h0,h1]];simp only[if_true,Bool.false_eq_true,if_false];omega) (by rw[List.countP_cons,show F6 e=true from by simp[F6,h0,h1]];simp only[if_true,Bool.false_eq_true,if_false];omega) (by rw[List.countP_cons,show F5 e=false from by simp[F5,h0,h1]];simp only[if_true,Bool.false_eq_true,if_false];omega))
    clear ih hQ hl
    obtain⟨⟨h_1,h_2,h_3⟩,sr,cd⟩:=e
    simp only at h0 h1
    subst h1
    generalize gN s=es at *
    simp[m0.enc,hF,hlr,hlq,hq,hne,hne',n9,n9',r9,r9',ad,ab.get_put,eb,h0]
    refine hn _ ?_ ?_ ?_
    ·refine aq (aD (aD hF hlr _) (by simp[ab.get_put,hne',hlq]) _) ?_ _
     simp[ad,hlr,hlq,ab.get_put,hne']
    ·simp[ab.get_put,hne,hne',r9]
    ·simp[ab.get_put,hne,hne',n9]
   ·have hn:=fun H' u1 u2 u3=>ih a b (c+1) H' u1 u2 u3 (by simp at hl;omega) (fun H'' x y z hx hy hz=>hQ H'' x y z (by rw[List.countP_cons,show zj e=false from by simp[zj,h0,h1]];simp only[if_true,Bool.false_eq_true,if_false];omega) (by rw[List.countP_cons,show F6 e=false from by simp[F6,h0,h1]];simp only[if_true,Bool.false_eq_true,if_false];omega) (by rw[List.countP_cons,show F5 e=true from by simp[F5,h0,h1]];simp only[if_true,Bool.false_eq_true,if_false];omega))
    clear ih hQ hl
    obtain⟨⟨h_1,h_2,h_3⟩,sr,cd⟩:=e
    simp only at h0 h1
    generalize gN s=es at *
    simp[m0.enc,hF,hlr,hlq,hq,hne,hne',n9,n9',r9,r9',ad,ab.get_put,ec,h0,h1]
    refine hn _ ?_ ?_ ?_
    ·refine aq (aD (aD hF hlr _) (by simp[ab.get_put,hne',hlq]) _) ?_ _
     simp[ad,hlr,hlq,ab.get_put,hne']
    ·simp[ab.get_put,hne,hne',r9]
    ·simp[ab.get_put,hne,hne',n9]
def C4(en:List m0)(n:Nat):AV := .agg [aI (en.countP zj),aI (en.countP F6),aI (en.countP F5),aI ((n:Int) - en.countP zj - en.countP F6 - en.countP F5)]
def Bp(us:List Clear)(qs:List bu)(gr:Int)(l:List (gA × AV))(v1:UInt8)(v2:UInt32):AV :=
 if (yE us qs gr l).isSome=true∧v1≤15 then .tup [C4 (fe (l.filter (cN ⟨v1,v2⟩))) (l.filter (cN ⟨v1,v2⟩)).length,aI 0] else .tup [.agg [aI 0,aI 0,aI 0,aI 0],aI 8]
theorem Jw(f:gA × AV→Bool)(hf : ∀p,f (uI p)=f p) : ∀(l:List (gA × AV)),((l.map uI).filter f).length=(l.filter f).length
 | []=>rfl
 | p :: l=>by
  have ih:=Jw f hf l
  rw[List.map_cons,List.filter_cons,List.filter_cons,hf p]
  split
  ·simp[ih]
  ·exact ih
section
variable{xu xq:AV}{us:List Clear}{qs:List bu}{gr:Int}(hu:Sl 3 (eW us) xu)(hq:Sl 5 (eY qs) xq)(hul:us.length<1000000)(hql:qs.length<1000000){l:List (gA × AV)}{x1:AV}(hx:Sl 24 (bU l) x1)(hall : ∀p∈l,uJ p)(hlen:l.length≤1000)
include hu hq hul hql hx hall hlen
theorem B0(v1:UInt8)(v2:UInt32):bj env 7 [.agg [xu,xq,aI gr],x1,.agg [a8 v1,aG v2]]=some (Bp us qs gr l v1 v2):=by
 refine aK (fn:=Tryz.f7) (c:=pI) (by kernel_rfl) (by kernel_rfl) (by kernel_rfl) (by kernel_rfl) (by kernel_rfl) ?_
 refine A1 _ _ _ _ _ fun g=>?_
 obtain⟨y0,h0,hA⟩:=I3 (gr:=gr) hu hq hul hql hx hall v1 v2
 unfold Bp
 unfold Hd at hA
 cases ho:yE us qs gr l with
 | none =>
  rw[ho]at hA
  subst hA
  simp[ah,ai,ae,af,ad, *,mP,hu.r,hq.r,hx.r,h0]
 | some b =>
  rw[ho]at hA
  simp only at hA
  by_cases hv:v1≤15
  ·simp only[hv,if_true]at hA
   obtain⟨x,hs,rfl⟩:=hA
   have hrr : ∀p∈(l.map uI).filter (cN ⟨v1,v2⟩),p.2.one=true:=by
    intro p hp
    obtain⟨q,hq1,rfl⟩:=List.mem_map.1 (List.mem_filter.1 hp).1
    exact N0 (yf (hall q hq1).1)
   have hle:((l.map uI).filter (cN ⟨v1,v2⟩)).length≤1000:=Nat.le_trans (List.length_filter_le ..) (by simpa using hlen)
   have het:=Bo (cN ⟨v1,v2⟩) (fun p=>rfl) l
   have hlt:=Jw (cN ⟨v1,v2⟩) (fun p=>rfl) l
   have hlE:(fe (l.filter (cN ⟨v1,v2⟩))).length≤1000:=by
    rw[←het]
    exact Nat.le_trans (List.length_filterMap_le ..) hle
   simp[ah,ai,ae,af,ad, *,mP,hu.r,hq.r,hx.r,hs.r,h0]
   generalize fe (l.filter (cN ⟨v1,v2⟩))=en at *
   refine BO (by kernel_rfl) (EL (En hs hrr hle _)) ?_
   rw[het]
   have hel:(bU ((l.map uI).filter (cN ⟨v1,v2⟩))).length=(l.filter (cN ⟨v1,v2⟩)).length:=by rw[kW,hlt]
   refine Il hs (by rw[hel];omega) (n:=((l.map uI).filter (cN ⟨v1,v2⟩)).length) rfl rfl en 0 0 0 _ ?_ ?_ ?_ (by simpa using hlE) (fun H' a b c ha hb hc=>?_)
   ·exact aq (by simp(maxDischargeDepth:=12) [ab.get_put,aq,an,Fr.nil,aD,ah,ai,ae,af,ar,ao,ad, *]) rfl _
   ·simp[keyed,ab.get,eK]
   ·simp[keyed,ab.get,eK]
   ·simp at ha hb hc
    subst ha hb hc
    rw[hel]
    simp[hv,C4]
  ·simp only[hv,if_false]at hA
   subst hA
   simp[ah,ai,ae,af,ad, *,mP,hu.r,hq.r,hx.r,h0,hv]
end
end Go.Proofs.YtdbiffjdomokfaaGreat
namespace Go.Proofs.YtdbiffjdomokfaaGreat
open Go.Ab
attribute [local simp] bD bp bl bC bB cV lj bP bt bA dc db cg bR aV cm List.take_of_length_le
theorem Yb(a b:m0):lZ env.P 20 67 [a8 a.h.lv,aG a.h.cats,a8 a.h.num,aI a.serial,aI a.code] [a8 b.h.lv,aG b.h.cats,a8 b.h.num,aI b.serial,aI b.code]=some (decide (a=b)):=by
 obtain⟨⟨a1,a2,a3⟩,a4,a5⟩:=a
 obtain⟨⟨b1,b2,b3⟩,b4,b5⟩:=b
 simp[lZ,gb,and_assoc,Bool.and_assoc]
theorem aaq:Aa env.P 67=true:=by kernel_rfl
theorem Xo(a b:m0)(xo yo:Operand):aE env.P .neq 67 xo yo (some (.agg [a8 a.h.lv,aG a.h.cats,a8 a.h.num,aI a.serial,aI a.code])) (some (.agg [a8 b.h.lv,aG b.h.cats,a8 b.h.num,aI b.serial,aI b.code]))=some (aB (!decide (a=b)),[]):=by
 rw[yA aaq .neq (.inr rfl) xo yo (Yb a b) rfl rfl (by kernel_rfl) (by kernel_rfl)];rfl
section
variable{x y:AV}{a b:List m0}(hx:Sl 5 (gN a) x)(hy:Sl 5 (gN b) y)(ha:a.length≤1000000)
include hx hy ha
theorem GJ(he:a.length=b.length){Q:AV→ab→Prop} : ∀(s t:List m0)(k:Nat)(i:Int)(H:ab),a.drop k=s→b.drop k=t→k≤a.length→i=k →
 (∀H',Q (aB (decide (s=t))) H')→bT env Tryz.f17 0 fQ [(5,aI i),(1,y),(0,x)] H Q:=by
 intro s
 induction s with
 | nil =>
  rintro t k i H hs ht hk rfl hQ
  obtain rfl:=drop_nil hs hk
  obtain rfl:t=[]:=by rw[←ht,he];simp
  have hfin:=hQ H
  refine lY _ _ _ _ _ fun g=>?_
  simp[ah,ai,ae,af,ad, *,iX,hx.r]
  simpa using hfin
 | cons e s ih =>
  rintro t k i H hs ht hk rfl hQ
  obtain⟨hlt,hg,hs',hg'⟩:=drop_cons hs
  match t,ht,hQ with
  | [],ht,hQ =>
   have:=congrArg List.length ht
   simp at this;omega
  | e2 :: t,ht,hQ =>
  obtain⟨hlt2,hg2,ht',hg2'⟩:=drop_cons ht
  have e3:=IntWalk.i64_in ((k:Int)+1) (by omega)
  have hrd:eL (gN a) k 0 5 true=some e.enc:=by simp[gN,hg',m0.enc]
  have hrd2:eL (gN b) k 0 5 true=some e2.enc:=by simp[gN,hg2',m0.enc]
  have hrec:=fun H' (h:e=e2)=>ih t (k+1) _ H' hs' ht' (by omega) rfl (fun H''=>by have:=hQ H'';rw[h]at this;simpa using this)
  have hno:=fun H' (h : ¬e=e2)=>(by have:=hQ H';simpa [h] using this:Q (aB false) H')
  refine lY _ _ _ _ _ fun g=>?_
  clear ih hQ hs ht hs' ht' hg hg2 hg' hg2'
  simp[ah,ai,ae,af,ad, *,iX,hx.r,hy.r,hx.idx,hy.idx,hlt,hlt2,hrd,hrd2,m0.enc,Xo,e3]
  refine kO (fun h=>?_) (fun h=>?_)
  ·exact hno _ (by simpa using h)
  ·simp[e3];simpa using hrec _ (by simpa using h)
theorem yp:bj env 17 [x,y]=some (aB (decide (a=b))):=by
 refine aK (fn:=Tryz.f17) (c:=jP) rfl (by kernel_rfl) (by kernel_rfl) (by kernel_rfl) (by kernel_rfl) ?_;refine sx _ _ _ _ fun g=>?_
 by_cases he:a.length=b.length
 ·have h:=GJ hx hy ha he (Q:=fun z H=>handed env 17 z H (aB (decide (a=b)))) a b 0 0 [] rfl rfl (by omega) rfl (fun H'=>by simp)
  have hi:(a.length:Int)=b.length:=by omega
  simp[ah,ai,ae,af,ad, *,jW,hx.r,hy.r,hi]
  exact h
 ·have hne : ¬a=b:=fun e=>he (by rw[e])
  have hi : ¬(a.length:Int)=b.length:=by omega
  simp[ah,ai,ae,af,ad, *,jW,hx.r,hy.r,hi,hne]
end
end Go.Proofs.YtdbiffjdomokfaaGreat
