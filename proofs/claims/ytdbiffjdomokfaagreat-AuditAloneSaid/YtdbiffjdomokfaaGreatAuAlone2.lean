/-
  AuditAlone: the law. No statement of a seat is proved here.
-/
import Derived.Test.YtdbiffjdomokfaaGreatMLeLow0
import Derived.Test.YtdbiffjdomokfaaGreatMLeLow1
set_option linter.unusedVariables false
set_option linter.unusedSimpArgs false
set_option linter.unusedSectionVars false
set_option maxRecDepth 100000
namespace Go.Proofs.YtdbiffjdomokfaaGreat
open Go.Ab
attribute [local simp] bD bp bl bC bB cV lj bP bt bA dc db cg bR aV cm List.take_of_length_le
theorem HZ(other:List Int)(v:jz) : ∀(l:List (gA × AV)),fe ((l.map (wD other)).filter (cN v))=fe (l.filter (cN v))
 | []=>rfl
 | p :: l=>by
  have ih:=HZ other v l
  rw[List.map_cons,List.filter_cons,List.filter_cons,show cN v (wD other p)=cN v p from rfl]
  split
  ·by_cases h3:p.1.kind=3
   ·rw[xF h3,xF (show(wD other p).1.kind=3 from h3)];exact ih
   ·rw[xE h3,xE (show ¬(wD other p).1.kind=3 from h3),ih];rfl
  ·exact ih
theorem Fx(other:List Int){p:gA × AV}(h:p.1.op.l.length≤1000):uJ (wD other p):=by
 refine⟨?_,?_⟩
 ·show Sl 1 (rows (other.take p.1.op.l.length)) (LQ other p.1.op.l.length)
  unfold LQ
  split
  ·rename_i e;rw[e];exact .inl ⟨rfl,rfl⟩
  ·exact .inr ⟨none,rfl,by simp⟩
 ·show(other.take p.1.op.l.length).length<1000000
  rw[List.length_take];omega
theorem NB(v:jz)(l:List (gA × AV)):Ly ((l.map uI).filter (cN v))=Ly (l.filter (cN v)):=by
 induction l with
 | nil=>rfl
 | cons p l ih =>
  rw[List.map_cons,List.filter_cons,List.filter_cons,show cN v (uI p)=cN v p from rfl]
  split
  ·simp only[Ly,List.map_cons]at ih ⊢
   rw[ih];rfl
  ·exact ih
theorem Yc(a b c d:Int):lZ env.P 20 22 [aI a,aI b,aI c,aI d] [aI a,aI b,aI c,aI d]=some true:=by
 simp[lZ,CM]
theorem aar:Aa env.P 22=true:=by kernel_rfl
theorem Xp(a b c d:Int)(xo yo:Operand):aE env.P .neq 22 xo yo (some (.agg [aI a,aI b,aI c,aI d])) (some (.agg [aI a,aI b,aI c,aI d]))=some (aB false,[]):=by
 rw[yA aar .neq (.inr rfl) xo yo (Yc a b c d) rfl rfl (by kernel_rfl) (by kernel_rfl)];rfl
section
variable{xu xq:AV}{us:List Clear}{qs:List bu}{gr:Int}(hu:Sl 3 (eW us) xu)(hq:Sl 5 (eY qs) xq)(hul:us.length<1000000)(hql:qs.length<1000000){l lm:List (gA × AV)}{x1 x3 x12:AV}(hlm:l.length=lm.length)(hok : ∀p∈lm,uJ p)(hlen:lm.length≤1000){v1:UInt8}{v2:UInt32}(hv:v1≤15)
 (h12:Sl 5 (gN (fe (lm.filter (cN ⟨v1,v2⟩)))) x12) {r:Ref}
include hu hq hul hql hlm hok hlen hv h12
theorem Mr{Q:AV→ab→Prop}(hT : ∀H,Q (aB true) H){H:ab}(hF:Fr H){q4 q6:Ref}(h4:H.get q4=some ⟨3,[.agg [xu,xq,aI gr]],false,false⟩)(h6:H.get q6=some ⟨2,[.agg [a8 v1,aG v2]],false,false⟩)(n4 : ¬q4=r)(n6 : ¬q6=r)
 (hr:H.get r=some ⟨24,bU lm,true,false⟩) :
 bT env Tryz.f6 0 cG [(9,aB true),(21,aI l.length),(1,x1),(3,x3),(20,.cM r 0 l.length none),(12,x12),(6,.ptr q6 0 0),(4,.ptr q4 0 0)] H Q:=by
 have hsl:Sl 24 (bU lm) (.cw 24 (bU lm) none) := .inr ⟨none,rfl,by simp⟩
 have hC:=Et (gr:=gr) hu hq hul hql hsl hok
 obtain⟨y,hy,hA⟩:=ym (gr:=gr) hu hq hul hql hsl hok hlen v1 v2
 unfold zI at hA
 have hRl:=kW lm
 refine fp _ _ _ _ _ _ _ _ _ _ fun g=>?_
 cases ho:(yE us qs gr lm).isSome with
 | false =>
  rw[ho]at hC
  clear hok hA hy h12
  generalize bU lm=er at *
  simp[ah,ai,ae,af,ad, *,cI,h4,hr,hu.r,hq.r,hC,hRl,hlm]
 | true =>
  rw[ho]at hC
  rw[if_pos ⟨ho,hv⟩]at hA
  obtain⟨x,hx,rfl⟩:=hA
  have hS:=yp hx h12 (by
   have:=CP (lm.filter (cN ⟨v1,v2⟩))
   have:=List.length_filter_le (cN ⟨v1,v2⟩) lm
   omega)
  simp only[decide_true]at hS
  clear hok
  generalize bU lm=er at *
  generalize gN (fe (lm.filter (cN ⟨v1,v2⟩)))=ee at *
  have h12r:=h12.r
  rcases hx with ⟨rfl,he⟩ | ⟨cp,rfl,he⟩
  ·simp[ah,ai,ae,af,ad, *,cI,h4,h6,hr,hu.r,hq.r,hC,hRl,hlm,hy,h12r,hS,ab.get_put]
  ·simp[ah,ai,ae,af,ad, *,cI,h4,h6,hr,hu.r,hq.r,hC,hRl,hlm,hy,h12r,hS,ab.get_put]
end
section
variable{xu xq:AV}{us:List Clear}{qs:List bu}{gr:Int}(hu:Sl 3 (eW us) xu)(hq:Sl 5 (eY qs) xq){l:List (gA × AV)}{x1:AV}(hx:Sl 24 (bU l) x1)(hl : ∀p∈l,Sl 1 (rows p.1.op.l) p.2)
include hu hq hx hl
theorem Is(v1:UInt8)(v2:UInt32){other:List Int}{x3:AV}(h3:Sl 1 (rows other) x3):bj env 6 [.agg [xu,xq,aI gr],x1,.agg [a8 v1,aG v2],x3]=some (aB true):=by
 obtain⟨t,hG,ht⟩:=Nq (gr:=gr) hu hq hx hl 25
 have hA:=Lk
 refine aK (fn:=Tryz.f6) (c:=gH) rfl (by kernel_rfl) (by kernel_rfl) (by kernel_rfl) (by kernel_rfl) ?_;refine pb _ _ _ _ _ _ fun g=>?_
 cases t with
 | true =>
  clear hl
  simp[ah,ai,ae,af,ad, *,cC,hx.r,hu.r,hq.r,h3.r]
 | false =>
  obtain⟨b1,b2,b3,b4⟩:=ht rfl
  have hll:l.length≤25:=by omega
  have hmax : ∀p∈l,p.1.op.l.length≤1000:=fun p hp=>by have:=b4 p (by rw[List.take_of_length_le (by omega)];exact hp);omega
  have hok : ∀p∈l,uJ p:=fun p hp=>⟨hl p hp,by have:=hmax p hp;omega⟩
  have hul:us.length<1000000:=by omega
  have hql:qs.length<1000000:=by omega
  by_cases h64:(other.length:Int)<64
  ·clear hl hok hmax b4
   simp[ah,ai,ae,af,ad, *,cC,hx.r,hu.r,hq.r,h3.r,h64]
  obtain⟨y0,hy0,hA0⟩:=I3 (gr:=gr) hu hq hul hql hx hok v1 v2
  unfold Hd at hA0
  cases ho:yE us qs gr l with
  | none =>
   rw[ho]at hA0
   simp only at hA0
   subst hA0
   clear hl hok hmax b4 ho
   simp[ah,ai,ae,af,ad, *,cC,hx.r,hu.r,hq.r,h3.r,h64,hy0]
  | some b =>
   rw[ho]at hA0
   simp only at hA0
   by_cases hv:v1≤15
   ·simp only[hv,if_true]at hA0
    obtain⟨x16,h16,rfl⟩:=hA0
    have hok' : ∀p∈(l.map uI).filter (cN ⟨v1,v2⟩),uJ p:=by
     intro p hp
     obtain⟨q,hq1,rfl⟩:=List.mem_map.1 (List.mem_filter.1 hp).1
     exact⟨yf (hok q hq1).1,(hok q hq1).2⟩
    have hl':((l.map uI).filter (cN ⟨v1,v2⟩)).length≤25:=Nat.le_trans (List.length_filter_le ..) (by simpa using hll)
    obtain⟨b',ho',_⟩:=QF (v:=⟨v1,v2⟩) ho (NB ⟨v1,v2⟩ l) (by omega)
    have hff:((l.map uI).filter (cN ⟨v1,v2⟩)).filter (cN ⟨v1,v2⟩)=(l.map uI).filter (cN ⟨v1,v2⟩) :=
     List.filter_eq_self.2 fun p hp=>(List.mem_filter.1 hp).2
    have het:=Bo (cN ⟨v1,v2⟩) (fun p=>rfl) l
    have hlt:=Jw (cN ⟨v1,v2⟩) (fun p=>rfl) l
    obtain⟨y1,hy1,hA1⟩:=ym (gr:=gr) hu hq hul hql hx hok (by omega) v1 v2
    obtain⟨y2,hy2,hA2⟩:=ym (gr:=gr) hu hq hul hql h16 hok' (by omega) v1 v2
    have hC1:=B0 (gr:=gr) hu hq hul hql hx hok (by omega) v1 v2
    have hC2:=B0 (gr:=gr) hu hq hul hql h16 hok' (by omega) v1 v2
    unfold zI at hA1 hA2
    unfold Bp at hC1 hC2
    rw[if_pos ⟨by rw[ho];rfl,hv⟩]at hA1 hC1
    rw[if_pos ⟨by rw[ho'];rfl,hv⟩,hff,het]at hA2 hC2
    rw[hlt]at hC2
    obtain⟨x22,h22,rfl⟩:=hA1
    obtain⟨x27,h27,rfl⟩:=hA2
    have hS:=yp h22 h27 (by
     have:=CP (l.filter (cN ⟨v1,v2⟩))
     have:=List.length_filter_le (cN ⟨v1,v2⟩) l
     omega)
    simp only[decide_true]at hS
    unfold C4 at hC1 hC2
    have h22':=h22
    rw[←HZ other]at h22'
    have hnew : ∀p∈l.map (wD other),uJ p:=by
     intro p hp
     obtain⟨q,hq1,rfl⟩:=List.mem_map.1 hp
     exact Fx other (hmax q hq1)
    have hRl:=kW l
    have hnq:=Xp
    by_cases hnil:l=[]
    ·subst hnil
     have hn0:Sl 24 (bU []) cP := .inl ⟨rfl,rfl⟩
     have hCn:=Et (gr:=gr) hu hq hul hql hn0 (fun p hp=>by cases hp)
     obtain⟨yn,hyn,hAn⟩:=ym (gr:=gr) hu hq hul hql hn0 (fun p hp=>by cases hp) (by simp) v1 v2
     unfold zI at hAn
     rw[if_pos ⟨by rw[ho];rfl,hv⟩]at hAn
     obtain⟨xn,hxn,rfl⟩:=hAn
     have hSn:=yp hxn h22 (by simp[fe])
     simp only[decide_true]at hSn
     rw[ho]at hCn
     have hxe:Sl 24 [] x1:=hx
     clear hl hok hmax b4 hok' hnew ho ho' het hff h22' hlt
     generalize hel:fe (List.filter (cN ⟨v1,v2⟩) [])=en at *
     simp[ah,ai,ae,af,ad, *,cC,hx.r,hu.r,hq.r,h3.r,h64,hy0,hy1,hy2,h16.r,h22.r,h27.r,hS,hC1,hC2,hnq,hxe.ld]
     refine fp _ _ _ _ _ _ _ _ _ _ fun g=>?_
     simp[ah,ai,ae,af,ad, *,cI,hxn.r,h22.r,hu.r,hq.r,hCn,hyn,hSn]
    ·have hend:=fun H' (hF':Fr H') h4 h6 hr=>Mr (gr:=gr) hu hq hul hql (lm:=l.map (wD other)) (l:=l) (x1:=x1) (x3:=x3) (x12:=x22) (by simp) hnew (by simp;omega) hv h22' (r:=⟨0,96,0,0⟩)
      (Q:=fun x H=>view H.get 8 x=some (aB true)) (fun H=>by simp) hF' (q4:=⟨0,4,0,0⟩) (q6:=⟨0,6,0,0⟩) h4 h6 (by simp) (by simp) hr
     have hloop:=J4 (x12:=x22) hx hl h3 (by omega) hmax (q4:=⟨0,4,0,0⟩) (q6:=⟨0,6,0,0⟩) (r:=⟨0,96,0,0⟩) rfl rfl rfl (b4:=⟨3,[.agg [xu,xq,aI gr]],false,false⟩) (b6:=⟨2,[.agg [a8 v1,aG v2]],false,false⟩)
      (Q:=fun x H=>view H.get 8 x=some (aB true)) (fun H=>by simp) l 0
     have hne:bU l≠[]:=fun e=>hnil (by simpa [bU] using e)
     clear hl hok hmax b4 hok' hnew ho ho' het hff h22' hlt
     generalize hel:fe (l.filter (cN ⟨v1,v2⟩))=en at *
     simp[ah,ai,ae,af,ad, *,cC,hx.r,hu.r,hq.r,h3.r,h64,hy0,hy1,hy2,h16.r,h22.r,h27.r,hS,hC1,hC2,hnq,hx.ld,hne]
     refine⟨by omega,hloop _ rfl (by omega) (by simp(maxDischargeDepth:=12) [ab.get_put,aq,an,Fr.nil,aD,ah,ai,ae,af,ar,ao,ad, *]) (by simp) (by simp) (by simp) (fun H' hF' g4 g6 g=>hend H' hF' g4 g6 g)⟩
   ·simp only[hv,if_false]at hA0
    subst hA0
    clear hl hok hmax b4 ho
    simp[ah,ai,ae,af,ad, *,cC,hx.r,hu.r,hq.r,h3.r,h64,hy0]
end
end Go.Proofs.YtdbiffjdomokfaaGreat
