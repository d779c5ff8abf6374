/-
  A ruling hangs on what is below, and on no rune: the law's walk. No statement of a seat is proved here.
-/
import Derived.Test.YtmkmimgokagimaaGreatMLeAdm7
import Derived.Test.YtmkmimgokagimaaGreatLeVl12
set_option linter.unusedVariables false
set_option linter.unusedSimpArgs false
set_option linter.unusedSectionVars false
set_option linter.unnecessarySimpa false
set_option maxRecDepth 100000
set_option maxHeartbeats 4000000
namespace Go.Proofs.YtmkmimgokagimaaGreat
open Go.Ab
attribute [local simp] bJ bw bt bG bF cL kN bX bx bD cR cQ cr bY bh ct List.take_of_length_le
theorem N2{P:Program}{t z:Nat}(h:(dZ P t).bind (bm P)=some z){es:List AV}{x:AV}(hx:Sl z es x){n:Int}(h0:0≤n)(hn:n≤es.length) :
 ∃y,(∀g,eU P g t (some x) (some none) (some (some n)) (some none)=some (y,[]))∧Sl z (es.take n.toNat) y:=by
 rcases hx with ⟨rfl,rfl⟩ | ⟨c,rfl,hcap⟩
 ·refine⟨cp,fun g=>?_,.inl ⟨rfl,by simp⟩⟩
  rw[z3 (by rw[h];rfl)]
  have:n=0:=by simp at hn;omega
  subst this;rfl
 ·obtain⟨y,h1,h2⟩:=EP h (fun _=>none) (.inr ⟨c,rfl,hcap⟩) h0 hn
  refine⟨y,fun g=>?_,h2⟩
  rw[EY h]at h1 ⊢
  exact h1
theorem Qj(u:MV)(h:oK (u.r,u.x)):bj env 61 [u.av,u.av]=some (aB true):=by
 have hS:=aaj h h
 rw[LM]at hS
 have hr:=h.1.r
 unfold fY.val at hS
 unfold MV.av
 obtain⟨c,w,⟨k1,us,⟨ba,⟨aO,aN,aT⟩,aV,⟨⟨⟨aX,aW,aY⟩,aZ⟩,an⟩,⟨⟨ay,ax,aw⟩,au⟩,⟨aA,az⟩,al⟩,c',g1,v,w',o⟩,x⟩:=u
 simp only at hS hr ⊢
 clear h
 refine aG (fn:=Tryz.f61) (c:=oz) rfl (by kernel_rfl) (by kernel_rfl) (by kernel_rfl) (by kernel_rfl) ?_;refine u7 _ _ _ _ fun g=>?_
 cases w<;>simp[ah,ai,ae,af,ab, *,oD]
def lC(al bl:List Int)(k:Nat):Bool:=(List.range k).all fun i=>decide ((al[i]?=some (-1))↔(bl[i]?=some (-1)))
theorem Lg(al bl:List Int)(k:Nat):lC al bl (k+1)=(lC al bl k&&decide ((al[k]?=some (-1))↔(bl[k]?=some (-1)))):=by
 unfold lC
 rw[List.range_succ,List.all_append]
 simp
theorem MP{al bl:List Int}(hl:al.length=bl.length)(h:lC al bl al.length=true):(-1∈al)↔(-1∈bl):=by
 unfold lC at h
 rw[List.all_eq_true]at h
 constructor
 ·intro hm
  obtain⟨i,hi,e⟩:=List.getElem_of_mem hm
  have:=h i (List.mem_range.2 hi)
  rw[decide_eq_true_eq]at this
  have e2:=this.1 (by rw[List.getElem?_eq_getElem hi,e])
  exact List.mem_of_getElem? e2
 ·intro hm
  obtain⟨i,hi,e⟩:=List.getElem_of_mem hm
  have:=h i (List.mem_range.2 (by omega))
  rw[decide_eq_true_eq]at this
  have e2:=this.2 (by rw[List.getElem?_eq_getElem hi,e])
  exact List.mem_of_getElem? e2
theorem QC{us:List Clear}{qs:List bn}{gr:Int}{l:List (fY × AV)}{h:nY}{user:Int}:oK ((zt us qs gr l h user).1.r,(zt us qs gr l h user).1.x):=by
 have hz:oK (Vu,cp):=⟨.inl ⟨rfl,rfl⟩,by decide⟩
 unfold zt
 split
 ·exact hz
 ·split
  ·unfold Kd
   dsimp only
   repeat' split
   all_goals first | exact hz | exact⟨.inl ⟨rfl,rfl⟩,by show(0:Nat)<1000000;decide⟩
  ·exact hz
theorem PZ{us:List Clear}{qs:List bn}{gr:Int}{l:List (fY × AV)}{h:nY}{o:bz}{x:AV}(hx:Sl 1 (rows o.l) (mY x))(hl:o.l.length<1000000):oK ((pS us qs gr l h o x).1.r,(pS us qs gr l h o x).1.x):=by
 have hz:oK (Vu,cp):=⟨.inl ⟨rfl,rfl⟩,by decide⟩
 unfold pS
 split
 ·exact hz
 ·split
  ·unfold LG
   dsimp only
   repeat' split
   all_goals first | exact hz | exact⟨hx,hl⟩
  ·exact hz
section
variable{x1:AV}(ba:UInt8)(aO:UInt8)(aN:UInt32)(aT:UInt8)(aV:Int)(aX:UInt8)(aW:UInt32)(aY:UInt8)(aZ:Int)(an:Int)(ay:UInt8)(ax:UInt32)(aw:UInt8)(au:Int)(aA:UInt8)(az:UInt32){x xm:AV}{al ml:List Int}(hx:Sl 1 (rows al) x){H:ad}{r10 r28 r20 r8 r6:Ref}(h10:H.get r10=some ⟨17,[.agg [a8 ba,a8 aO,aF aN,a8 aT,aI aV,a8 aX,aF aW,a8 aY,aI aZ,aI an,a8 ay,aF ax,a8 aw,aI au,a8 aA,aF az,x]],false,false⟩)(h28:H.get r28=some ⟨17,[.agg [a8 ba,a8 aO,aF aN,a8 aT,aI aV,a8 aX,aF aW,a8 aY,aI aZ,aI an,a8 ay,aF ax,a8 aw,aI au,a8 aA,aF az,xm]],false,false⟩)
 (hxm:(xm=cp∧ml=[]) ∨∃r fz,xm = .cP r 0 ml.length none∧H.get r=some ⟨1,rows ml,true,fz⟩) (hlen:ml.length=al.length) (hal:al.length<1000000) {Q:AV→ad→Prop} (e2:Int)
include hx h10 h28 hxm hlen hal
theorem MO(hend:b7 env Tryz.f12 0 dw [(30,aI ml.length),(10,.ptr r10 0 0),(28,.ptr r28 0 0),(29,aB (lC ml al ml.length)),(20,.ptr r20 0 0),(21,aI e2),(13,aB true),(8,.ptr r8 0 0),(1,x1),(6,.ptr r6 0 0)] H Q) :
 ∀(j k:Nat),ml.length - k=j→k≤ml.length→b7 env Tryz.f12 0 dw [(30,aI k),(10,.ptr r10 0 0),(28,.ptr r28 0 0),(29,aB (lC ml al k)),(20,.ptr r20 0 0),(21,aI e2),(13,aB true),(8,.ptr r8 0 0),(1,x1),(6,.ptr r6 0 0)] H Q:=by
 intro j
 induction j with
 | zero =>
  intro k hj hk
  obtain rfl:k=ml.length:=by omega
  exact hend
 | succ j ih =>
  intro k hj hk
  have hlt:k<ml.length:=by omega
  have hlt2:k<al.length:=by omega
  have e:=ih (k+1) (by omega) (by omega)
  rw[Lg]at e
  have w1:=IntWalk.i64_in ((k:Int)+1) (by omega)
  obtain⟨r,fz,rfl,hr⟩ : ∃r fz,xm = .cP r 0 ml.length none∧H.get r=some ⟨1,rows ml,true,fz⟩:=by
   rcases hxm with ⟨_,h⟩ | h
   ·subst h;cases hlt
   ·exact h
  have g1:ml[k]?=some ml[k]:=List.getElem?_eq_getElem hlt
  have g2:al[k]?=some al[k]:=List.getElem?_eq_getElem hlt2
  have hli:(k:Int)<ml.length:=by omega
  have hli2:(k:Int)<al.length:=by omega
  have hd:decide ((ml[k]?=some (-1))↔(al[k]?=some (-1)))=(decide (ml[k] = -1) == decide (al[k] = -1)):=by
   rw[g1,g2]
   by_cases c1:ml[k] = -1<;>by_cases c2:al[k] = -1<;>simp[c1,c2]
  rw[hd]at e
  generalize lC ml al k=bb at *
  generalize ml[k]=m0 at *
  generalize al[k]=a0 at *
  have rr1 : ∀n,eQ (rows ml) k 0 n false=some (aR m0):=fun n=>by simp[g1]
  have rr2 : ∀n,eQ (rows al) k 0 n false=some (aR a0):=fun n=>by simp[g2]
  have hl1:(rows ml).length=ml.length:=by simp
  have hl2:(rows al).length=al.length:=by simp
  have hl3:(rows al).length=ml.length:=by simp[hlen]
  unfold aR at rr1 rr2
  clear ih hend hxm g1 g2 hd
  generalize rows ml=rml at *
  generalize rows al=ral at *
  generalize ml.length=nm at *
  generalize al.length=na at *
  subst hlen
  refine ew _ _ _ _ _ _ _ _ _ _ _ _ fun g=>?_
  cases bb with
  | false =>
   clear rr1 rr2
   simp[ah,ai,ae,af,ab, *,aK]
   exact e
  | true =>
   simp[ah,ai,ae,af,ab, *,aK,hx.r,hx.idx]
   first | exact e | (simp at e;exact e)
end
section
variable{xu xq:AV}{us:List Clear}{qs:List bn}{gr:Int}(hu:Sl 3 (ed us) xu)(hq:Sl 5 (ef qs) xq){l:List (fY × AV)}{x1:AV}(hx:Sl 24 (cW l) x1)
include hu hq hx
theorem MT(hA:bj env 53 []=some (aB true))(hl : ∀p∈l,Sl 1 (rows p.1.op.l) p.2)(B9:UInt8)(CE:UInt32)(Gj:UInt8)(user:Int)(ba:UInt8)(aO:UInt8)(aN:UInt32)(aT:UInt8)(aV:Int)(aX:UInt8)(aW:UInt32)(aY:UInt8)(aZ:Int)(an:Int)(ay:UInt8)(ax:UInt32)(aw:UInt8)(au:Int)(aA:UInt8)(az:UInt32){x:AV}{al:List Int}(hax:Sl 1 (rows al) x){x5:AV}{ol:List Int}(h5:Sl 1 (rows ol) x5) :
 bj env 12 [.agg [xu,xq,aI gr],x1,.agg [a8 B9,aF CE,a8 Gj],aI user,.agg [a8 ba,a8 aO,aF aN,a8 aT,aI aV,a8 aX,aF aW,a8 aY,aI aZ,aI an,a8 ay,aF ax,a8 aw,aI au,a8 aA,aF az,x],x5]=some (aB true):=by
 obtain⟨t,hG,ht⟩:=Qt (gr:=gr) hu hq hx hl 25
 have ru:=hu.r
 have rq:=hq.r
 have rx:=hx.r
 have ra:=hax.r
 have r5:=h5.r
 refine aG (fn:=Tryz.f12) (c:=gT) rfl (by kernel_rfl) (by kernel_rfl) (by kernel_rfl) (by kernel_rfl) ?_;refine qw _ _ _ _ _ _ _ _ fun g=>?_
 cases t with
 | true =>
  clear hl
  simp[ah,ai,ae,af,ab, *,cg]
 | false =>
  obtain⟨b1,b2,b3,b4⟩:=ht rfl
  have hll:l.length≤25:=by omega
  by_cases h300:(300:Int)<al.length
  ·clear hl b4
   simp[ah,ai,ae,af,ab, *,cg]
  ·by_cases hos:(ol.length:Int)<al.length
   ·clear hl b4
    simp[ah,ai,ae,af,ab, *,cg]
   ·have hal:al.length<1000000:=by omega
    have hok : ∀p∈l,oK p:=fun p hp=>⟨hl p hp,by have:=b4 p (by rw[List.take_of_length_le (by omega)];exact hp);omega⟩
    have hul:us.length<1000000:=by omega
    have hql:qs.length<1000000:=by omega
    obtain⟨y,hO,hoA⟩:=VL (gr:=gr) hu hq hul hql hx hok B9 CE
    unfold QX at hoA
    cases ho:nR us qs gr l with
    | none =>
     rw[ho]at hoA
     subst hoA
     clear hl b4 hok ho ht
     simp[ah,ai,ae,af,ab, *,cg]
    | some b =>
     rw[ho]at hoA
     dsimp only at hoA
     by_cases hv:B9≤15
     ·rw[if_pos hv]at hoA
      obtain⟨x',hx',rfl⟩:=hoA
      have hrl:=Nd ⟨B9,CE⟩ l
      have hok' : ∀p∈(l.map xL).filter (gA ⟨B9,CE⟩),oK p:=by
       intro p hp
       obtain⟨p0,h0,rfl⟩:=List.mem_map.1 (List.mem_filter.1 hp).1
       have:=hok p0 h0
       exact⟨AQ this.1,this.2⟩
      obtain⟨b',ho',hB,hn⟩:=To ho hrl (by omega)
      have hkk:nd ⟨B9,CE⟩ ⟨B9,CE⟩=true:=by simp[nd]
      obtain⟨yt,hyt,hyts,_⟩:=Co ba aO aN aT aV aX aW aY aZ an ay ax aw au aA az hax hal
      rw[hyt]at hyts
      have hO1:=Qn (gr:=gr) hu hq hul hql hx hok B9 CE Gj user
      have hO2:=Qn (gr:=gr) hu hq hul hql hx' hok' B9 CE Gj user
      rw[OH ho ho' hB hrl hn (k:=⟨B9,CE,Gj⟩) hkk]at hO2
      have hS1:=ET (gr:=gr) hu hq hul hql hx hok B9 CE Gj ba aO aN aT aV aX aW aY aZ an ay ax aw au aA az hax hal
      have hS2:=ET (gr:=gr) hu hq hul hql hx' hok' B9 CE Gj ba aO aN aT aV aX aW aY aZ an ay ax aw au aA az hax hal
      rw[P0 ho ho' hB hrl hn (k:=⟨B9,CE,Gj⟩) hkk]at hS2
      have hM1:=QA (gr:=gr) hu hq hul hql hx hok B9 CE Gj
      have hM2:=QA (gr:=gr) hu hq hul hql hx' hok' B9 CE Gj
      rw[Q8 ho ho' hB hrl hn (k:=⟨B9,CE,Gj⟩) hkk]at hM2
      have hR1:=Qj _ (QC (us:=us) (qs:=qs) (gr:=gr) (l:=l) (h:=⟨B9,CE,Gj⟩) (user:=user))
      have ok1:=QC (us:=us) (qs:=qs) (gr:=gr) (l:=l) (h:=⟨B9,CE,Gj⟩) (user:=user)
      have ok2:=PZ (us:=us) (qs:=qs) (gr:=gr) (l:=l) (h:=⟨B9,CE,Gj⟩) (o:=(⟨ba,⟨aO,aN,aT⟩,aV,⟨⟨⟨aX,aW,aY⟩,aZ⟩,an⟩,⟨⟨ay,ax,aw⟩,au⟩,⟨aA,az⟩,al⟩:bz)) (x:=x) hyts hal
      have hR2:=Qj _ ok2
      obtain⟨ml,hml⟩ : ∃ml,ml=ol.take al.length:=⟨_,rfl⟩
      have hmlen:ml.length=al.length:=by rw[hml,List.length_take];omega
      obtain⟨ys,hys,hysl⟩:=N2 (P:=env.P) (t:=36) (z:=1) (by kernel_rfl) h5 (n:=al.length) (by omega) (by simp;omega)
      have hrows:(rows ol).take ((al.length:Int)).toNat=rows ml:=by rw[hml];simp[rows,List.map_take]
      rw[hrows]at hysl
      have hnn : ¬(ml.length:Int)<0:=by omega
      clear hml hrows
      have key : ∀z:AV,Sl 1 (rows ml) z →∃sB:MV × Int,bj env 52 [.agg [xu,xq,aI gr],x1,.agg [a8 B9,aF CE,a8 Gj],.agg [a8 ba,a8 aO,aF aN,a8 aT,aI aV,a8 aX,aF aW,a8 aY,aI aZ,aI an,a8 ay,aF ax,a8 aw,aI au,a8 aA,aF az,z]]=some (.tup [sB.1.av,aI sB.2])∧oK (sB.1.r,sB.1.x) ∧
       (lC ml al ml.length=true→sB.2=(pS us qs gr l ⟨B9,CE,Gj⟩ (⟨ba,⟨aO,aN,aT⟩,aV,⟨⟨⟨aX,aW,aY⟩,aZ⟩,an⟩,⟨⟨ay,ax,aw⟩,au⟩,⟨aA,az⟩,al⟩:bz) x).2→sB.1.code=(pS us qs gr l ⟨B9,CE,Gj⟩ (⟨ba,⟨aO,aN,aT⟩,aV,⟨⟨⟨aX,aW,aY⟩,aZ⟩,an⟩,⟨⟨ay,ax,aw⟩,au⟩,⟨aA,az⟩,al⟩:bz) x).1.code∧sB.1.write=(pS us qs gr l ⟨B9,CE,Gj⟩ (⟨ba,⟨aO,aN,aT⟩,aV,⟨⟨⟨aX,aW,aY⟩,aZ⟩,an⟩,⟨⟨ay,ax,aw⟩,au⟩,⟨aA,az⟩,al⟩:bz) x).1.write):=by
       intro z hz
       refine⟨_,ET (gr:=gr) hu hq hul hql hx hok B9 CE Gj ba aO aN aT aV aX aW aY aZ an ay ax aw au aA az hz (by omega),PZ (o:=(⟨ba,⟨aO,aN,aT⟩,aV,⟨⟨⟨aX,aW,aY⟩,aZ⟩,an⟩,⟨⟨ay,ax,aw⟩,au⟩,⟨aA,az⟩,ml⟩:bz)) (AQ hz) (by show ml.length<1000000;omega),fun hb he=>?_⟩
       exact NZ (us:=us) (qs:=qs) (gr:=gr) (l:=l) (h:=⟨B9,CE,Gj⟩) (o:=(⟨ba,⟨aO,aN,aT⟩,aV,⟨⟨⟨aX,aW,aY⟩,aZ⟩,an⟩,⟨⟨ay,ax,aw⟩,au⟩,⟨aA,az⟩,al⟩:bz)) (x:=x) (x':=z) (al:=ml) (MP hmlen hb) he
      have hloop:=fun(xm:AV)(H:ad)(r10 r28 r20 r8 r6:Ref) h10 h28 hxm Q e2=>MO (x1:=x1) ba aO aN aT aV aX aW aY aZ an ay ax aw au aA az (xm:=xm) (ml:=ml) hax (H:=H) (r10:=r10) (r28:=r28) (r20:=r20) (r8:=r8) (r6:=r6) h10 h28 hxm hmlen hal (Q:=Q) e2
      have rx':=hx'.r
      have hrl2:(rows ml).length=al.length:=by simp[hmlen]
      have hrl3:(rows ml).length=ml.length:=by simp
      generalize zt us qs gr l ⟨B9,CE,Gj⟩ user=oA at *
      generalize pS us qs gr l ⟨B9,CE,Gj⟩ (⟨ba,⟨aO,aN,aT⟩,aV,⟨⟨⟨aX,aW,aY⟩,aZ⟩,an⟩,⟨⟨ay,ax,aw⟩,au⟩,⟨aA,az⟩,al⟩:bz) x=sA at *
      generalize Mb us qs gr l ⟨B9,CE,Gj⟩=mA at *
      obtain⟨⟨oc,ow,⟨ok1',ou,⟨kg,⟨kf,kM,iE⟩,Gp,⟨⟨⟨Gn,Gm,Gl⟩,Gk⟩,tf⟩,⟨⟨ta,s9,s8⟩,s7⟩,⟨sZ,sY⟩,bl⟩,oc',og,ov,ow',oo⟩,ox⟩,oe⟩:=oA
      obtain⟨⟨sc,sw,⟨sk,su,⟨d_1,⟨d_2,d_3,d_4⟩,d_5,⟨⟨⟨d_6,d_7,d_8⟩,d_9⟩,afO⟩,⟨⟨afN,afM,afL⟩,afK⟩,⟨afJ,afI⟩,dl⟩,sc',sg,sv,sw',so⟩,sx⟩,se⟩:=sA
      obtain⟨mb,me⟩:=mA
      have q1:=ok1.1.r
      have q2:=ok2.1.r
      unfold MV.av at hO1 hO2 hS1 hS2 hR1 hR2
      simp only at hO1 hO2 hS1 hS2 hR1 hR2 hM1 hM2 q1 q2 key
      clear hl b4 hok ho ht hok' ho' hB hn hrl hu hq hx hx' hyts ok1 ok2 hyt
      have hblk : ∀(sB:MV × Int),(lC ml al ml.length=true→sB.2=se→sB.1.code=sc∧sB.1.write=sw)→(lC ml al ml.length=false)∨(sB.2≠se)∨(lC ml al ml.length=true∧sB.2=se∧sB.1.code=sc∧sB.1.write=sw):=by
       intro sB h
       cases hb:lC ml al ml.length with
       | false=>exact .inl rfl
       | true =>
        by_cases he:sB.2=se
        ·exact .inr (.inr ⟨rfl,he,h hb he⟩)
        ·exact .inr (.inl he)
      simp only[hmlen]at hloop hblk key hnn
      clear hrl3
      have f0:al.length * 4≤140737488355328:=by omega
      by_cases hn0:rows ml=[]
      ·have hm0:ml=[]:=by simpa [rows] using hn0
       have hz:Sl 1 (rows ml) cp:=by rw[hn0];exact .inl ⟨rfl,rfl⟩
       have hm0w:PLift (ml=[]):=⟨hm0⟩
       have hsys:ys=cp ∨∃c,ys = .ck 1 [] c:=by
        rw[hn0]at hysl
        rcases hysl with ⟨rfl,_⟩ | ⟨c,rfl,_⟩
        ·exact .inl rfl
        ·exact .inr ⟨c,rfl⟩
       rcases hsys with rfl | ⟨c,rfl⟩
       ·clear hm0 hn0
        obtain⟨⟨⟨tc,tw,⟨tk,tu,⟨e_1,⟨e_2,e_3,e_4⟩,e_5,⟨⟨⟨e_6,e_7,e_8⟩,e_9⟩,abB⟩,⟨⟨abA,abz,aby⟩,abx⟩,⟨abw,abv⟩,el⟩,tc',tg,tv,tw',tt⟩,tx⟩,te⟩,hS3,ok3,hrun⟩:=key _ hz
        have hh:=hblk _ hrun
        have htx:tx=cp ∨∃es c,tx = .ck 1 es c:=by
         rcases ok3.1 with ⟨h,_⟩ | ⟨c,h,_⟩
         ·exact .inl h
         ·exact .inr ⟨_,c,h⟩
        unfold MV.av at hS3
        simp only at hS3 hh
        have hbl:(rows al).length=al.length:=by simp
        clear key hrun hblk hysl hz ok3
        simp[ah,ai,ae,af,ab, *,cg]
        refine hloop cp _ _ _ _ _ _ ?_ ?_ ?_ _ _ ?_ al.length 0 (by omega) (by omega)
        ·simp
        ·simp[hmlen]
        ·exact .inl ⟨rfl,hm0w.down⟩
        ·clear hloop
         refine ew _ _ _ _ _ _ _ _ _ _ _ _ fun g=>?_
         rcases htx with rfl | ⟨es,c9,rfl⟩
         ·rcases hh with hb | he | ⟨hb,he,hc,hw⟩
          ·simp[ah,ai,ae,af,ab, *,aK]
          ·cases hbb:lC ml al al.length<;>simp[ah,ai,ae,af,ab, *,aK]
          ·subst he hc hw
           cases tw<;>simp[ah,ai,ae,af,ab, *,aK]
         ·rcases hh with hb | he | ⟨hb,he,hc,hw⟩
          ·simp[ah,ai,ae,af,ab, *,aK]
          ·cases hbb:lC ml al al.length<;>simp[ah,ai,ae,af,ab, *,aK]
          ·subst he hc hw
           cases tw<;>simp[ah,ai,ae,af,ab, *,aK]
       ·clear hm0 hn0
        obtain⟨⟨⟨tc,tw,⟨tk,tu,⟨e_1,⟨e_2,e_3,e_4⟩,e_5,⟨⟨⟨e_6,e_7,e_8⟩,e_9⟩,abB⟩,⟨⟨abA,abz,aby⟩,abx⟩,⟨abw,abv⟩,el⟩,tc',tg,tv,tw',tt⟩,tx⟩,te⟩,hS3,ok3,hrun⟩:=key _ hz
        have hh:=hblk _ hrun
        have htx:tx=cp ∨∃es c,tx = .ck 1 es c:=by
         rcases ok3.1 with ⟨h,_⟩ | ⟨c,h,_⟩
         ·exact .inl h
         ·exact .inr ⟨_,c,h⟩
        unfold MV.av at hS3
        simp only at hS3 hh
        have hbl:(rows al).length=al.length:=by simp
        clear key hrun hblk hysl hz ok3
        simp[ah,ai,ae,af,ab, *,cg]
        refine hloop cp _ _ _ _ _ _ ?_ ?_ ?_ _ _ ?_ al.length 0 (by omega) (by omega)
        ·simp
        ·simp[hmlen]
        ·exact .inl ⟨rfl,hm0w.down⟩
        ·clear hloop
         refine ew _ _ _ _ _ _ _ _ _ _ _ _ fun g=>?_
         rcases htx with rfl | ⟨es,c9,rfl⟩
         ·rcases hh with hb | he | ⟨hb,he,hc,hw⟩
          ·simp[ah,ai,ae,af,ab, *,aK]
          ·cases hbb:lC ml al al.length<;>simp[ah,ai,ae,af,ab, *,aK]
          ·subst he hc hw
           cases tw<;>simp[ah,ai,ae,af,ab, *,aK]
         ·rcases hh with hb | he | ⟨hb,he,hc,hw⟩
          ·simp[ah,ai,ae,af,ab, *,aK]
          ·cases hbb:lC ml al al.length<;>simp[ah,ai,ae,af,ab, *,aK]
          ·subst he hc hw
           cases tw<;>simp[ah,ai,ae,af,ab, *,aK]
      ·obtain⟨c,rfl⟩ : ∃c,ys = .ck 1 (rows ml) c:=by
        rcases hysl with ⟨_,h⟩ | ⟨c,h,_⟩
        ·exact absurd h hn0
        ·exact⟨c,h⟩
       have hz:Sl 1 (rows ml) (.ck 1 (rows ml) none):=Sl.mk _ _
       have hpos:0<al.length:=by rw[←hrl2];exact List.length_pos_iff.2 hn0
       obtain⟨⟨⟨tc,tw,⟨tk,tu,⟨e_1,⟨e_2,e_3,e_4⟩,e_5,⟨⟨⟨e_6,e_7,e_8⟩,e_9⟩,abB⟩,⟨⟨abA,abz,aby⟩,abx⟩,⟨abw,abv⟩,el⟩,tc',tg,tv,tw',tt⟩,tx⟩,te⟩,hS3,ok3,hrun⟩:=key _ hz
       have hh:=hblk _ hrun
       have htx:tx=cp ∨∃es c,tx = .ck 1 es c:=by
        rcases ok3.1 with ⟨h,_⟩ | ⟨c,h,_⟩
        ·exact .inl h
        ·exact .inr ⟨_,c,h⟩
       unfold MV.av at hS3
       simp only at hS3 hh
       have hbl:(rows al).length=al.length:=by simp
       clear key hrun hblk hysl hz ok3
       simp[ah,ai,ae,af,ab, *,cg]
       refine hloop (.cP ⟨0,149,0,0⟩ 0 al.length none) _ _ _ _ _ _ ?_ ?_ ?_ _ _ ?_ al.length 0 (by omega) (by omega)
       ·simp
       ·simp[hmlen]
       ·exact .inr ⟨⟨0,149,0,0⟩,false,rfl,by simp⟩
       ·clear hloop
        refine ew _ _ _ _ _ _ _ _ _ _ _ _ fun g=>?_
        rcases htx with rfl | ⟨es,c9,rfl⟩
        ·rcases hh with hb | he | ⟨hb,he,hc,hw⟩
         ·simp[ah,ai,ae,af,ab, *,aK]
         ·cases hbb:lC ml al al.length<;>simp[ah,ai,ae,af,ab, *,aK]
         ·subst he hc hw
          cases tw<;>simp[ah,ai,ae,af,ab, *,aK]
        ·rcases hh with hb | he | ⟨hb,he,hc,hw⟩
         ·simp[ah,ai,ae,af,ab, *,aK]
         ·cases hbb:lC ml al al.length<;>simp[ah,ai,ae,af,ab, *,aK]
         ·subst he hc hw
          cases tw<;>simp[ah,ai,ae,af,ab, *,aK]
     ·rw[if_neg hv]at hoA
      subst hoA
      clear hl b4 hok ho ht
      simp[ah,ai,ae,af,ab, *,cg]
end
end Go.Proofs.YtmkmimgokagimaaGreat
