/-
  Records on a disk: what the functions answer. No statement of a seat is proved here.
-/
import Derived.Test.YtiidajnodhkidaaGreatLogDk
import Derived.Test.YtiidajnodhkidaaGreatStVc7
set_option linter.unusedVariables false
set_option linter.unusedSimpArgs false
set_option linter.unusedSectionVars false
set_option linter.unnecessarySimpa false
set_option maxRecDepth 100000
namespace Go.Proofs.YtiidajnodhkidaaGreat
open Go.Ab
attribute [local simp] ct bK bO bN keep thr cC bD bP eE eD cN cB aV dk List.take_of_length_le
theorem CI(a b:Int):limf env 69 [aI a,aI b]=some (aB (decide (0≤a)&&decide (a≤b))):=by
 refine aH (fn:=Tryz.f69) (c:=yr) rfl (by kernel_rfl) (by kernel_rfl) (by kernel_rfl) (by kernel_rfl) ?_;refine DY _ _ _ _ fun g=>?_
 cases h:decide (0≤a)<;>simp[af,ah,ad,ae,aa, *,yA]
theorem Nf{B:List (List UInt8)}(h128 : ∀b∈B,b.length=128){area at':Int}(ha:0≤area∧area≤2)(ht:0≤at'∧at'+B.length≤2048){r10:Ref}{Q:AV→Heap→Prop} :
 ∀(s:List (List UInt8)) (k:Nat) (i:Int) (d:Dk) (H:Heap),B.drop k=s→k≤B.length→i=k→d.Fit→d.may=true→H.get r10=some ⟨4,[d.val],false,false⟩→Fr H →
 (∀H',Q (.tup [(d.wrs (area * 2048+at'+k) s).val,aI (at'+B.length),aI 0]) H') →
 GoL env Tryz.f42 0 jQ [(10,.ptr r10 0 0),(70,aI i),(2,aI at'),(1,aI area),(68,.isl 1 (lS B) none),(15,.isl 1 (lS B) none),(69,aI B.length)] H Q:=by
 have e1:=IntWalk.i64_in (area * 2048) (by omega)
 have e2:=IntWalk.i64_in (area * 2048+at') (by omega)
 have e4:=IntWalk.i64_in (at'+B.length) (by omega)
 intro s
 induction s with
 | nil =>
  rintro k i d H hs hk rfl hf hm hb hF hQ
  obtain rfl:=drop_nil hs hk
  have hQ':=hQ
  have hsl:=hf.sl.r
  obtain⟨l,x,st,lf,dd⟩:=d
  simp only[Dk.val,dsk,Dk.wrs]at hb hQ' hsl
  have l5:(H.get r10).isSome=true:=by rw[hb];rfl
  refine fE _ _ _ _ _ _ _ _ _ fun g=>?_
  clear hQ hf hm h128
  simp[af,ah,ad,ae,aa, *,eT,Heap.aj]
 | cons b s ih =>
  rintro k i d H hs hk rfl hf hm hb hF hQ
  obtain⟨hlt,hg,hs',hg'⟩:=drop_cons hs
  have b1:=h128 b (by rw[←hg];exact List.getElem_mem _)
  have hq:0≤area * 2048+at'+k∧area * 2048+at'+k<6146:=by omega
  have e3:=IntWalk.i64_in (area * 2048+at'+k) (by omega)
  have e5:=IntWalk.i64_in ((k:Int)+1) (by omega)
  have hw:=s_Wr hf hm hq (Sl.mk 1 (by8 b)) b1
  have hf':=zI hf hm hq b1
  have hm':=Cc hm hq b1
  have hQ' : ∀H',Q (.tup [((d.wr (area * 2048+at'+k) b).wrs (area * 2048+at'+(k+1:Nat)) s).val,aI (at'+B.length),aI 0]) H':=by
   intro H'
   have:=hQ H'
   rw[show area * 2048+at'+((k+1:Nat):Int)=area * 2048+at'+k+1 by omega]
   exact this
  have hih:=fun d' H'=>ih (k+1) ((k:Int)+1) d' H' hs' (by omega) (by simp)
  generalize d.wr (area * 2048+at'+k) b=d' at *
  have hih:=fun H'=>hih d' H' hf' hm'
  have hsl:=hf.sl.r
  have hsl':=hf'.sl.r
  have q1:=FT hg'
  clear ih hQ hf hf' hm hm' h128
  obtain⟨l,x,st,lf,dd⟩:=d
  obtain⟨l',x',st',lf',dd'⟩:=d'
  simp only[Dk.val,dsk]at hb hih hw hsl hsl'
  have l5:(H.get r10).isSome=true:=by rw[hb];rfl
  refine fE _ _ _ _ _ _ _ _ _ fun g=>?_
  simp[af,ah,ad,ae,aa, *,eT,Heap.aj]
  exact hih _ (by simp(maxDischargeDepth:=12) [Heap.aj,aD,ar,Fr.nil,aP,af,ah,ad,ae,aF,aq,aa, *]) (by simp(maxDischargeDepth:=12) [Heap.aj,aD,ar,Fr.nil,aP,af,ah,ad,ae,aF,aq,aa, *]) hQ'
def appE(d:Dk)(area at' nu:Int)(r:Rcd):Int :=
 if d.may then (if 0≤area∧area≤2∧0≤at'∧at'≤2048∧1≤d.st∧1≤nu∧nu<16777216 then (if ej r then (if at'+recN r≤2048 then 0 else 9) else 8) else 2) else 8
def Dk.app(d:Dk)(area at' nu:Int)(r:Rcd):Dk:=d.tw.wrs (area * 2048+at') (dF r d.st nu)
def appA(d:Dk)(area at' nu:Int)(r:Rcd):AV :=
 if appE d area at' nu r=0 then .tup [(d.app area at' nu r).val,aI (at'+recN r),aI 0] else .tup [lZ,aI 0,aI (appE d area at' nu r)]
section
variable{d:Dk}(hf:d.Fit)(r:Rcd){x:AV}(hx:Sl 1 (rows r.op.l) x)(hl:r.op.l.length<2000000)
include hf hx hl
theorem FO(area at' nu:Int):limf env 42 [d.val,aI area,aI at',aI nu,r.val x]=some (appA d area at' nu r):=by
 refine aH (fn:=Tryz.f42) (c:=pL) rfl (by kernel_rfl) (by kernel_rfl) (by kernel_rfl) (by kernel_rfl) ?_;refine AJ _ _ _ _ _ _ _ fun g=>?_
 have hc:=wJ hf
 have hr:=hx.r
 have hxv:=hf.sl.r
 have hp:=FN r hx hl d.st nu
 have f1:=CI area 2
 have f2:=CI at' 2048
 unfold appA appE
 cases hm:d.may with
 | false =>
  rw[hm]at hc
  clear hm hp
  obtain⟨l,y,st,lf,dd⟩:=d
  simp only[Dk.val,dsk,lZ,Bool.false_eq_true,if_false]at hc hxv ⊢
  unfold Rcd.val
  simp[af,ah,ad,ae,aa, *,fp]
 | true =>
  rw[hm]at hc
  simp only[if_true]
  by_cases hg:0≤area∧area≤2∧0≤at'∧at'≤2048∧1≤d.st∧1≤nu∧nu<16777216
  ·rw[if_pos hg]
   obtain⟨g1,g2,g3,g4,g5,g6,g7⟩:=hg
   have hst:d.st<2147483648:=by
    have:=hm
    unfold Dk.may dOk dhOk at this
    simp at this
    omega
   rw[decide_eq_true g1,decide_eq_true g2]at f1
   rw[decide_eq_true g3,decide_eq_true g4]at f2
   unfold Md at hp
   cases hI:ej r with
   | false =>
    rw[hI,if_neg (by decide)]at hp
    simp only[Bool.false_eq_true,if_false,show ¬(8:Int)=0 by decide]
    clear hm hI
    obtain⟨l,y,st,lf,dd⟩:=d
    simp only[Dk.val,dsk,lZ]at hc hxv hp g5 ⊢
    unfold Rcd.val at hp ⊢
    simp[af,ah,ad,ae,aa, *,fp]
   | true =>
    have hn:=m9 hI
    have hh:kZ d.st nu 0 (recN r)=true:=by
     unfold kZ
     simp
     omega
    rw[hI,if_pos rfl,hh,if_pos rfl]at hp
    have hlen:=fc hI d.st nu
    have h128:=DK hI hh
    simp only[if_true]
    by_cases hroom:at'+recN r≤2048
    ·simp only[if_pos hroom,if_true]
     have hT:=xq (st:=d.st) (lf:=d.lf) (dd:=d.dd) hf.sl hf.ok (tg d.l (-1) (vc hm)) (by have:=hf.len;omega)
     have ou:=uR hf.sl
     have hlo:=Nf (B:=dF r d.st nu) h128 (area:=area) (at':=at') ⟨g1,g2⟩ (by omega) (r10:=⟨0,10,0,0⟩) (Q:=fun v H=>ia env 42 v H (.tup [(d.app area at' nu r).val,aI (at'+recN r),aI 0]))
     unfold Dk.app at hlo ⊢
     generalize hB:dF r d.st nu=B at *
     obtain⟨b,B',rfl⟩ : ∃b B',B=b :: B':=by
      cases B with
      | nil=>rw[List.length_nil]at hlen;omega
      | cons b B'=>exact⟨b,B',rfl⟩
     have b1:=h128 b (List.mem_cons_self ..)
     have hq:0≤area * 2048+at'∧area * 2048+at'<6146:=by omega
     have hft:=tx hf
     have hmt:d.tw.may=true:=by rw[Il,hm]
     have hw:=s_Wr hft hmt hq (Sl.mk 1 (by8 b)) b1
     have hf':=zI hft hmt hq b1
     have hm':=Cc hmt hq b1
     have hfin : ∀H',ia env 42 (.tup [((d.tw.wr (area * 2048+at') b).wrs (area * 2048+at'+1) B').val,aI (at'+recN r),aI 0]) H' (.tup [((d.tw.wr (area * 2048+at') b).wrs (area * 2048+at'+1) B').val,aI (at'+recN r),aI 0]):=by
      intro H'
      have hfz:=(Ni B' (d.tw.wr (area * 2048+at') b) (area * 2048+at'+1) hf' hm' (by omega) (by simp at hlen;omega) fun b hb=>h128 b (List.mem_cons_of_mem _ hb)).1.sl.r
      generalize (d.tw.wr (area * 2048+at') b).wrs (area * 2048+at'+1) B'=d2 at *
      obtain⟨l2,y2,st2,lf2,dd2⟩:=d2
      simp only[Dk.val,dsk]at hfz ⊢
      simp[hfz]
     have hlo':=fun H=>hlo B' 1 1 (d.tw.wr (area * 2048+at') b) H rfl (by simp) rfl hf' hm'
     have e0:d.tw.wrs (area * 2048+at') (b :: B')=(d.tw.wr (area * 2048+at') b).wrs (area * 2048+at'+1) B':=rfl
     rw[e0]at hlo' ⊢
     rw[show((1:Nat):Int)=1 from rfl,hlen]at hlo'
     have hlo':=fun H a1 a2=>hlo' H a1 a2 hfin
     clear hlo hfin
     have e1:=IntWalk.i64_in (at'+(recN r:Int)) (by omega)
     have w1:=IntWalk.i64_in (area * 2048) (by omega)
     have w2:=IntWalk.i64_in (area * 2048+at') (by omega)
     have q1:=FT (B:=b :: B') (k:=0) (b:=b) rfl
     have l1:(b :: B').length=recN r:=hlen
     have l2:((lS (b :: B')).length:Int)=recN r:=by rw[ym,l1]
     have l3:0<recN r:=by omega
     have r2 : ¬(2048:Int)<at'+(recN r:Int):=by omega
     generalize ((d.tw.wr (area * 2048+at') b).wrs (area * 2048+at'+1) B')=d2 at *
     generalize d.tw.wr (area * 2048+at') b=d' at *
     have hsl':=hf'.sl.r
     have hcase:d'.x=aNil ∨∃c,d'.x = .isl 2 (encS d'.l) c:=by
      rcases hf'.sl with ⟨h,_⟩ | ⟨c,h,_⟩
      ·exact .inl h
      ·exact .inr ⟨c,h⟩
     clear hf' hm' hft hmt hm hI h128 hh hB hf hlen
     obtain⟨l,y,st,lf,dd⟩:=d
     obtain⟨l',y',st',lf',dd'⟩:=d'
     simp only[Dk.val,Dk.tw,dsk]at hc hxv hp g5 hT ou hw hlo' hsl' hcase ⊢
     generalize twA y l=Y at *
     unfold Rcd.val at hp ⊢
     generalize lS (b :: B')=BV at *
     rcases ou with ⟨rfl,h3⟩ | rfl | ⟨rfl,h3⟩
     ·simp only[vw]at hw
      simp[af,ah,ad,ae,aa, *,fp]
      refine fE _ _ _ _ _ _ _ _ _ fun g=>?_
      simp[af,ah,ad,ae,aa, *,eT,Heap.aj]
      exact hlo' _ (by simp(maxDischargeDepth:=12) [Heap.aj,aD,ar,Fr.nil,aP,af,ah,ad,ae,aF,aq,aa, *]) (by simp(maxDischargeDepth:=12) [Heap.aj,aD,ar,Fr.nil,aP,af,ah,ad,ae,aF,aq,aa, *])
     ·simp only[vw]at hw
      rcases hcase with rfl | ⟨c,rfl⟩
      ·simp[af,ah,ad,ae,aa, *,fp]
       refine fE _ _ _ _ _ _ _ _ _ fun g=>?_
       simp[af,ah,ad,ae,aa, *,eT,Heap.aj]
       exact hlo' _ (by simp(maxDischargeDepth:=12) [Heap.aj,aD,ar,Fr.nil,aP,af,ah,ad,ae,aF,aq,aa, *]) (by simp(maxDischargeDepth:=12) [Heap.aj,aD,ar,Fr.nil,aP,af,ah,ad,ae,aF,aq,aa, *])
      ·simp[af,ah,ad,ae,aa, *,fp]
       refine fE _ _ _ _ _ _ _ _ _ fun g=>?_
       simp[af,ah,ad,ae,aa, *,eT,Heap.aj]
       exact hlo' _ (by simp(maxDischargeDepth:=12) [Heap.aj,aD,ar,Fr.nil,aP,af,ah,ad,ae,aF,aq,aa, *]) (by simp(maxDischargeDepth:=12) [Heap.aj,aD,ar,Fr.nil,aP,af,ah,ad,ae,aF,aq,aa, *])
     ·simp only[vw]at hw
      rcases hcase with rfl | ⟨c,rfl⟩
      ·simp[af,ah,ad,ae,aa, *,fp]
       refine fE _ _ _ _ _ _ _ _ _ fun g=>?_
       simp[af,ah,ad,ae,aa, *,eT,Heap.aj]
       exact hlo' _ (by simp(maxDischargeDepth:=12) [Heap.aj,aD,ar,Fr.nil,aP,af,ah,ad,ae,aF,aq,aa, *]) (by simp(maxDischargeDepth:=12) [Heap.aj,aD,ar,Fr.nil,aP,af,ah,ad,ae,aF,aq,aa, *])
      ·simp[af,ah,ad,ae,aa, *,fp]
       refine fE _ _ _ _ _ _ _ _ _ fun g=>?_
       simp[af,ah,ad,ae,aa, *,eT,Heap.aj]
       exact hlo' _ (by simp(maxDischargeDepth:=12) [Heap.aj,aD,ar,Fr.nil,aP,af,ah,ad,ae,aF,aq,aa, *]) (by simp(maxDischargeDepth:=12) [Heap.aj,aD,ar,Fr.nil,aP,af,ah,ad,ae,aF,aq,aa, *])
    ·simp only[if_neg hroom,show ¬(9:Int)=0 by decide,if_false]
     have r1 : ¬at'+(recN r:Int)≤2048:=hroom
     have r2:(2048:Int)<at'+(recN r:Int):=by omega
     have e1:=IntWalk.i64_in (at'+(recN r:Int)) (by omega)
     generalize dF r d.st nu=B at *
     clear hm hI h128 hh
     obtain⟨l,y,st,lf,dd⟩:=d
     simp only[Dk.val,dsk,lZ]at hc hxv hp g5 ⊢
     unfold Rcd.val at hp ⊢
     simp[af,ah,ad,ae,aa, *,fp]
  ·rw[if_neg hg]
   simp only[show ¬(2:Int)=0 by decide,if_false]
   have hg':((decide (0≤area)&&decide (area≤2))=true→(decide (0≤at')&&decide (at'≤2048))=true→(1≤d.st →¬(1≤nu∧nu<16777216))):=by
    simp only[Bool.and_eq_true,decide_eq_true_eq]
    omega
   generalize (decide (0≤area)&&decide (area≤2))=a1 at *
   generalize (decide (0≤at')&&decide (at'≤2048))=a2 at *
   clear hm hp hg
   obtain⟨l,y,st,lf,dd⟩:=d
   simp only[Dk.val,dsk,lZ]at hc hxv hg' ⊢
   unfold Rcd.val
   by_cases c1:1≤st<;>by_cases c2:1≤nu<;>by_cases c3:nu<16777216<;>cases a1<;>cases a2<;>first | (exfalso;exact hg' rfl rfl c1 ⟨c2,c3⟩) | (clear hg';simp[af,ah,ad,ae,aa, *,fp])
end
end Go.Proofs.YtiidajnodhkidaaGreat
