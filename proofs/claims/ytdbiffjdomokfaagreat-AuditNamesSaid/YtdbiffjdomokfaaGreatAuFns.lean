/-
  audit.Trail. No statement of a seat is proved here.
-/
import Derived.Test.YtdbiffjdomokfaaGreatMAuVc6
import Derived.Test.YtdbiffjdomokfaaGreatLeOnly
set_option linter.unusedVariables false
set_option linter.unusedSimpArgs false
set_option linter.unusedSectionVars false
set_option maxRecDepth 100000
namespace Go.Proofs.YtdbiffjdomokfaaGreat
open Go.Ab
attribute [local simp] bK bw bo bM bL dc kS bU bx bH dJ dI cp bX bh cC List.take_of_length_le
structure nx where
 h:zU
 serial:Int
 code:Int
deriving DecidableEq
def nx.enc(e:nx):AV := .agg [a8 e.h.lv,aF e.h.cats,a8 e.h.num,aI e.serial,aI e.code]
def iT(l:List nx):List AV:=l.map nx.enc
@[simp] theorem Di(l:List nx):(iT l).length=l.length:=by simp[iT]
theorem vU(e:nx)(l:List nx):iT (e :: l)=e.enc :: iT l:=rfl
def mc(l:List (mv × AV)):List nx:=l.filterMap fun p=>if p.1.kind=3 then none else some ⟨p.1.op.h,p.1.op.serial,p.1.code⟩
theorem CU:(Am env.P 73).bind (ej env.P)=some (.agg [a8 0,aF 0,a8 0,aI 0,aI 0]):=by kernel_rfl
theorem CV{H:ab}{r:Ref}{n:Nat}{cl:Bool}{x:AV}{buf:List AV}(h:H.get r=some (gf n cl (x :: buf))) :
 sI env.P H 73 (some (.ch r)) true=some (.tup [x,aB true],H.put r (some (gf n cl buf))):=by
 simp only[sI,CU,sk h];rfl
theorem CW{H:ab}{r:Ref}{n:Nat}(h:H.get r=some (gf n true [])) :
 sI env.P H 73 (some (.ch r)) true=some (.tup [.agg [a8 0,aF 0,a8 0,aI 0,aI 0],aB false],H):=by
 simp only[sI,CU,sk h];rfl
theorem GN{n:Nat}{r:Ref}(hrt:r.t=8){Q:AV→ab→Prop} : ∀(s outs:List nx)(H:ab)(x6:AV),Fr H→H.get r=some (gf n true (iT s))→Own 5 (iT outs) H x6→(∀q,x6.at?=some q→q.t=28)→outs.length+s.length≤1000 →
 (∀H' x',Fr H'→Own 5 (iT (outs++s)) H' x'→Q (.tup [x',aI 0]) H')→bW env Tryz.f10 0 kY [(6,x6),(21,.ch r)] H Q:=by
 intro s
 induction s with
 | nil =>
  intro outs H x6 hF hr h6 ht hl hQ
  have hfin:=hQ H x6 hF (by simpa using h6)
  refine rf _ _ _ _ fun g=>?_
  refine pE (CW hr) ?_
  clear hQ
  simp
  exact hfin
 | cons e s ih =>
  intro outs H x6 hF hr h6 ht hl hQ
  have hlr:(H.get r).isSome=true:=by rw[hr];rfl
  have hnx:=fun H' x' h1 h2 h3 h4=>ih (outs++[e]) H' x' h1 h2 h3 h4 (by simp at hl ⊢;omega) (fun H'' x'' g1 g2=>hQ H'' x'' g1 (by simpa using g2))
  have heo:iT (outs++[e])=iT outs++[e.enc]:=by simp[iT]
  rw[heo]at hnx
  have hel:=Di outs
  have hl':outs.length≤1000:=by simp at hl;omega
  clear ih hQ heo hl
  refine rf _ _ _ _ fun g=>?_
  refine pE (CV (by rw[vU]at hr;exact hr)) ?_
  obtain⟨rd,rt,rg,rk⟩:=r
  simp only at hrt
  subst hrt
  generalize iT outs=eo at *
  generalize iT s=es at *
  generalize outs.length=nh at *
  simp only[nx.enc]at hnx ⊢
  obtain⟨⟨a,b,c⟩,d,e⟩:=e
  simp only at hnx ⊢
  rcases h6 with ⟨rfl,h6⟩ | ⟨t,rfl,h6⟩
  ·subst h6
   simp at hel
   subst hel
   simp[hF,hlr,ad]
   refine hnx _ (.cG ⟨0,28,H.gen 0 28,0⟩ 0 1 none) ?_ ?_ (.inr ⟨⟨0,28,H.gen 0 28,0⟩,rfl,?_⟩) (fun q hq=>by cases hq;rfl)
   ·exact by simp(maxDischargeDepth:=12) [ab.get_put,aq,an,Fr.nil,aD,ah,ai,ae,af,ar,ao,ad, *]
   ·exact by simp(maxDischargeDepth:=12) [ab.get_put,aq,an,Fr.nil,aD,ah,ai,ae,af,ar,ao,ad, *]
   ·exact by simp(maxDischargeDepth:=12) [ab.get_put,aq,an,Fr.nil,aD,ah,ai,ae,af,ar,ao,ad, *]
  ·have e28:=ht t rfl
   obtain⟨td,tt,tg,tk⟩:=t
   simp only at e28
   subst e28
   have f6:lV 5 32 nh true none (some ⟨5,eo,true,false⟩) (some [.agg [a8 a,aF b,a8 c,aI d,aI e]]):=by
    simp;omega
   have l8:(H.get ⟨td,28,tg,tk⟩).isSome=true:=by rw[h6];rfl
   simp[hF,hlr,ad,hel,l8,h6,f6,ab.get_put,ah,ai]
   refine hnx _ (.cG ⟨td,28,H.gen td 28,0⟩ 0 (nh+1) none) ?_ ?_ (.inr ⟨⟨td,28,H.gen td 28,0⟩,by simp[hel],?_⟩) (fun q hq=>by cases hq;rfl)
   ·exact by simp(maxDischargeDepth:=12) [ab.get_put,aq,an,Fr.nil,aD,ah,ai,ae,af,ar,ao,ad, *]
   ·exact by simp(maxDischargeDepth:=12) [ab.get_put,aq,an,Fr.nil,aD,ah,ai,ae,af,ar,ao,ad, *]
   ·exact by simp(maxDischargeDepth:=12) [ab.get_put,aq,an,Fr.nil,aD,ah,ai,ae,af,ar,ao,ad, *]
theorem Lu{z:Nat}{es:List AV}{x:AV}(h:Sl z es x):x.one=true:=by
 rcases h with ⟨rfl,_⟩ | ⟨c,rfl,_⟩
 ·rfl
 ·rfl
theorem E2(p:mv × AV)(h:p.2.one=true):mR (p.1.val p.2)=some (if p.1.kind=3 then none else some (nx.enc ⟨p.1.op.h,p.1.op.serial,p.1.code⟩)):=by
 obtain⟨⟨k,u,⟨a1,⟨a2,a3,a4⟩,a5,⟨⟨⟨a6,a7,a8'⟩,a9⟩,a10⟩,⟨⟨a11,a12,a13⟩,a14⟩,⟨a15,a16⟩,al⟩,c,g1,v,w,o⟩,x⟩:=p
 have hk:(0:Int)≤(k.toNat:Int)∧(k.toNat:Int)<256:=by have:=k.toNat_lt;omega
 have h3:((k.toNat:Int)=3)=(k=3):=by
  apply propext
  constructor
  ·intro e
   apply UInt8.toNat_inj.1
   show k.toNat=3
   omega
  ·rintro rfl;rfl
 have e:mR (mv.val ⟨k,u,⟨a1,⟨a2,a3,a4⟩,a5,⟨⟨⟨a6,a7,a8'⟩,a9⟩,a10⟩,⟨⟨a11,a12,a13⟩,a14⟩,⟨a15,a16⟩,al⟩,c,g1,v,w,o⟩ x)=(if ((0:Int)≤(k.toNat:Int)∧(k.toNat:Int)<256)∧flat depth (.agg [a8 a2,aF a3,a8 a4,aI a5,aI c])=true ∧
  [aI u,a8 a1,a8 a2,aF a3,a8 a4,aI a5,a8 a6,aF a7,a8 a8',aI a9,aI a10,a8 a11,aF a12,a8 a13,aI a14,a8 a15,aF a16,x,aI c,aI g1,a8 v,aF w,aB o].all AV.one=true then some (if (k.toNat:Int)=3 then none else some (.agg [a8 a2,aF a3,a8 a4,aI a5,aI c])) else none):=rfl
 have h':x.one=true:=h
 rw[e,if_pos ⟨hk,rfl,by simp[h']⟩]
 simp only[h3,nx.enc]
theorem I8 : ∀(rr:List (mv × AV)),(∀p∈rr,p.2.one=true) →∃l,(dk rr).mapM mR=some l∧l.filterMap id=iT (mc rr):=by
 intro rr
 induction rr with
 | nil=>intro _;exact⟨[],rfl,rfl⟩
 | cons p rr ih =>
  intro h
  obtain⟨l,h1,h2⟩:=ih fun q hq=>h q (List.mem_cons_of_mem _ hq)
  refine⟨(if p.1.kind=3 then none else some (nx.enc ⟨p.1.op.h,p.1.op.serial,p.1.code⟩)) :: l,?_,?_⟩
  ·show(p.1.val p.2 :: dk rr).mapM mR=_
   rw[List.mapM_cons,E2 p (h p (List.mem_cons_self ..)),h1];rfl
  ·by_cases h3:p.1.kind=3
   ·simpa [h3,mc] using h2
   ·simpa [h3,mc,vU] using h2
theorem CM{rr:List (mv × AV)}{x:AV}(hx:Sl 24 (dk rr) x)(h1 : ∀p∈rr,p.2.one=true)(hl:rr.length≤1000)(H:ab) :
 env.thrSpec 23 [x] H=some (.ch (eu H),keyed (eu H) 0 [gf rr.length true (iT (mc rr))] H):=by
 obtain⟨l,e1,e2⟩:=I8 rr h1
 have hel:=nP rr
 have hs:rj x=some (dk rr):=by
  rcases hx with ⟨rfl,h⟩ | ⟨c,rfl,h⟩
  ·rw[h];rfl
  ·simp only[rj];rw[if_pos (by omega)]
 show wG 23 [x] H=_
 simp only[wG,if_true,wH,hs,e1,e2,hel]
theorem Ec(f:mv × AV→Bool)(hf : ∀p,f (vJ p)=f p) : ∀(l:List (mv × AV)),mc ((l.map vJ).filter f)=mc (l.filter f)
 | []=>rfl
 | p :: l=>by
  have ih:=Ec f hf l
  rw[List.map_cons,List.filter_cons,List.filter_cons,hf p]
  split
  ·by_cases h3:p.1.kind=3
   ·simpa [mc,vJ,h3] using ih
   ·simpa [mc,vJ,h3] using ih
  ·exact ih
theorem C6{dep:Nat}{f:FuncId}{args:List AV}{H:ab}{z:AV × ab}(h:env.thrSpec f args H=some z):bR env dep (.fn f) args H=some z :=
 qm.2 ⟨0,fun m _=>by unfold ek;simp only[h]⟩
def DF(us:List Clear)(qs:List bI)(gr:Int)(l:List (mv × AV))(v1:UInt8)(v2:UInt32)(y:AV):Prop :=
 if (Ca us qs gr l).isSome=true∧v1≤15 then ∃x,Sl 5 (iT (mc (l.filter (gB ⟨v1,v2⟩)))) x∧y = .tup [x,aI 0] else y = .tup [dg,aI 8]
section
variable{xu xq:AV}{us:List Clear}{qs:List bI}{gr:Int}(hu:Sl 3 (fD us) xu)(hq:Sl 5 (fQ qs) xq)(hul:us.length<1000000)(hql:qs.length<1000000){l:List (mv × AV)}{x1:AV}(hx:Sl 24 (dk l) x1)(hall : ∀p∈l,AK p)(hlen:l.length≤1000)
include hu hq hul hql hx hall hlen
theorem Ig(v1:UInt8)(v2:UInt32) : ∃y,bj env 10 [.agg [xu,xq,aI gr],x1,.agg [a8 v1,aF v2]]=some y∧DF us qs gr l v1 v2 y:=by
 refine FO (fn:=Tryz.f10) (c:=pM) (by kernel_rfl) (by kernel_rfl) (by kernel_rfl) (by kernel_rfl) (by kernel_rfl) ?_
 refine Ah _ _ _ _ _ fun g=>?_
 obtain⟨y0,h0,hA⟩:=KY (gr:=gr) hu hq hul hql hx hall v1 v2
 unfold DF
 unfold Is at hA
 cases ho:Ca us qs gr l with
 | none =>
  rw[ho]at hA
  subst hA
  simp[ah,ai,ae,af,ad, *,np,hu.r,hq.r,hx.r,h0]
 | some b =>
  rw[ho]at hA
  simp only at hA
  by_cases hv:v1≤15
  ·simp only[hv,if_true]at hA
   obtain⟨x,hs,rfl⟩:=hA
   have hrr : ∀p∈(l.map vJ).filter (gB ⟨v1,v2⟩),p.2.one=true:=by
    intro p hp
    obtain⟨q,hq1,rfl⟩:=List.mem_map.1 (List.mem_filter.1 hp).1
    exact Lu (zP (hall q hq1).1)
   have hle:((l.map vJ).filter (gB ⟨v1,v2⟩)).length≤1000:=Nat.le_trans (List.length_filter_le ..) (by simpa using hlen)
   have het:=Ec (gB ⟨v1,v2⟩) (fun p=>rfl) l
   have hlE:(mc (l.filter (gB ⟨v1,v2⟩))).length≤1000:=by
    rw[←het]
    exact Nat.le_trans (List.length_filterMap_le ..) hle
   simp[ah,ai,ae,af,ad, *,np,hu.r,hq.r,hx.r,hs.r,h0]
   generalize mc (l.filter (gB ⟨v1,v2⟩))=en at *
   refine CH (by kernel_rfl) (C6 (CM hs hrr hle _)) ?_
   rw[het]
   refine GN (n:=((l.map vJ).filter (gB ⟨v1,v2⟩)).length) rfl en [] _ _ ?_ ?_ (.inl ⟨rfl,rfl⟩) (fun q hq=>by cases hq) (by simpa using hlE) (fun H' x' hF' h=>?_)
   ·exact aq (by simp(maxDischargeDepth:=12) [ab.get_put,aq,an,Fr.nil,aD,ah,ai,ae,af,ar,ao,ad, *]) rfl _
   ·simp[keyed,ab.get,eu]
   ·simp[hv]
    rw[List.nil_append]at h
    have hel:=Di en
    generalize iT en=ee at *
    rcases h with ⟨rfl,h⟩ | ⟨r,rfl,h⟩
    ·simp[h]
    ·simp[h]
  ·simp only[hv,if_false]at hA
   subst hA
   simp[ah,ai,ae,af,ad, *,np,hu.r,hq.r,hx.r,h0,hv]
end
end Go.Proofs.YtdbiffjdomokfaaGreat
