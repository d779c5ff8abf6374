/-
  What others do counts for nothing: the law's walk. No statement of a seat is proved here.
-/
import Derived.Test.YtmkmimgokagimaaGreatMLeSer
import Derived.Test.YtmkmimgokagimaaGreatMLeLow2
import Derived.Test.YtmkmimgokagimaaGreatLeVl8
set_option linter.unusedVariables false
set_option linter.unusedSimpArgs false
set_option linter.unusedSectionVars false
set_option linter.unnecessarySimpa false
set_option maxRecDepth 100000
set_option maxHeartbeats 4000000
namespace Go.Proofs.YtmkmimgokagimaaGreat
open Go.Ab
attribute [local simp] bm aP aG bh bg keep thr bF aY bf dw dv cV bG aC cd List.take_of_length_le
section
variable{xu xq:AV}{us:List Clear}{qs:List Quota}{gr:Int}(hu:Sl 3 (eg us) xu)(hq:Sl 5 (eK qs) xq){l:List (Rcd × AV)}{x1:AV}(hx:Sl 24 (dR l) x1)
include hu hq hx
theorem FO(hul:us.length<1000000)(hql:qs.length<1000000)(hall : ∀p∈l,okRc p){b:Book}(ho:ofA us qs gr l=some b):BookOk b:=by
 obtain⟨y,H2,hO,hA⟩:=s_Of (gr:=gr) hu hq hul hql hx hall 0 Fr.nil
 rw[ho]at hA
 obtain⟨rb,rs,ru,rk,xh,xr,rfl,hI,hok⟩:=hA
 exact hok
theorem Kf(hA:limf env 36 []=some (aB true))(hl : ∀p∈l,Sl 1 (rows p.1.op.l) p.2)(a_1:UInt8)(a_2:UInt8)(a_3:UInt32)(a_4:UInt8)(a_5:Int)(a_6:UInt8)(a_7:UInt32)(a_8:UInt8)(a_9:Int)(a_10:Int)(a_11:UInt8)(a_12:UInt32)(a_13:UInt8)(a_14:Int)(a_15:UInt8)(a_16:UInt32){x:AV}{al:List Int}(hax:Sl 1 (rows al) x)(k_1:UInt8)(k_2:UInt32)(k_3:UInt8)(serial:Int)(v1:UInt8)(v2:UInt32) :
 limf env 8 [.agg [xu,xq,aI gr],x1,.agg [a8 a_1,a8 a_2,a32 a_3,a8 a_4,aI a_5,a8 a_6,a32 a_7,a8 a_8,aI a_9,aI a_10,a8 a_11,a32 a_12,a8 a_13,aI a_14,a8 a_15,a32 a_16,x],.agg [a8 k_1,a32 k_2,a8 k_3],aI serial,.agg [a8 v1,a32 v2]]=some (aB true):=by
 obtain⟨t,hG,ht⟩:=K3 (gr:=gr) hu hq hx hl 25
 refine az (fn:=Tryz.f8) (c:=ic) rfl (by kernel_rfl) (by kernel_rfl) (by kernel_rfl) (by kernel_rfl) ?_;refine mN _ _ _ _ _ _ _ _ fun g=>?_
 cases t with
 | true =>
  clear hl
  simp[af,ah,ad,ae,ab, *,aZ,hx.r,hu.r,hq.r,hax.r]
 | false =>
  obtain⟨b1,b2,b3,b4⟩:=ht rfl
  have hll:l.length≤25:=by omega
  by_cases h300:(300:Int)<al.length
  ·clear hl b4
   simp[af,ah,ad,ae,ab, *,aZ,hx.r,hu.r,hq.r,hax.r]
  ·have hal:al.length<1000000:=by omega
   have hok : ∀p∈l,okRc p:=fun p hp=>⟨hl p hp,by have:=b4 p (by rw[List.take_of_length_le (by omega)];exact hp);omega⟩
   have hul:us.length<1000000:=by omega
   have hql:qs.length<1000000:=by omega
   obtain⟨y,hO,hoA⟩:=QX (gr:=gr) hu hq hul hql hx hok v1 v2
   unfold N9 at hoA
   cases ho:ofA us qs gr l with
   | none =>
    rw[ho]at hoA
    subst hoA
    clear hl b4 hok ho ht
    simp[af,ah,ad,ae,ab, *,aZ,hx.r,hu.r,hq.r,hax.r]
   | some b =>
    rw[ho]at hoA
    dsimp only at hoA
    by_cases hv:v1≤15
    ·rw[if_pos hv]at hoA
     obtain⟨x',hx',rfl⟩:=hoA
     have hrl:=II ⟨v1,v2⟩ l
     have hok' : ∀p∈(l.map twR).filter (jd ⟨v1,v2⟩),okRc p:=by
      intro p hp
      obtain⟨p0,h0,rfl⟩:=List.mem_map.1 (List.mem_filter.1 hp).1
      have:=hok p0 h0
      exact⟨yh this.1,this.2⟩
     obtain⟨b',ho',hB,hn⟩:=Oc ho hrl (by omega)
     have hk:=FO hu hq hx hul hql hok ho
     have hk':=FO hu hq hx' hul hql hok' ho'
     obtain⟨p1,hP1,hp1⟩:=Fz (gr:=gr) hu hq hul hql hx hok
     obtain⟨p2,hP2,hp2⟩:=Fz (gr:=gr) hu hq hul hql hx' hok'
     unfold polA at hp1 hp2
     rw[ho]at hp1
     rw[ho']at hp2
     obtain⟨wu,wq,s1,s2,rfl⟩:=hp1
     obtain⟨wu',wq',s3,s4,rfl⟩:=hp2
     rw[hB.us]at s3
     rw[hB.gr]at hP2
     have hPS:=KW b.gr s1 s3 s2 s4 (by have:=hk.few;omega) hql
     obtain⟨h1,hH1,hh1⟩:=CW (gr:=gr) hu hq hul hql hx hok
     obtain⟨h2,hH2,hh2⟩:=CW (gr:=gr) hu hq hul hql hx' hok'
     unfold hisA at hh1 hh2
     rw[ho]at hh1
     rw[ho']at hh2
     obtain⟨xh,sh,rfl⟩:=hh1
     obtain⟨xh',sh',rfl⟩:=hh2
     obtain⟨z,hD,sz⟩:=Is sh hk.hist (by have:=hk.many;omega) hB.is v1 v2 hv
     have hSO:=Gw sh' sz (by
      rw[hB.hist]
      simp only[opsOf,twO,List.map_map,List.filter_map]
      rfl) (fun p hp=>(hk'.hist p hp).1) (fun p hp=>by
       obtain⟨p0,h0,rfl⟩:=List.mem_map.1 hp
       have:=(hk.hist p0 ((List.mem_filter.1 h0).1)).1
       exact⟨yh this.1,this.2⟩) (by have:=hk'.many;omega)
     have hC:=Iq (gr:=gr) hu hq hul hql hx' hok'
     rw[ho',Option.isSome_some,if_pos rfl]at hC
     have hL1:=sK k_1 k_2 v1 v2
     have hL2:=sK a_2 a_3 v1 v2
     have hS1:=CT (gr:=gr) hu hq hul hql hx hok k_1 k_2 k_3
     have hS2:=CT (gr:=gr) hu hq hul hql hx' hok' k_1 k_2 k_3
     have hC1:=MA (gr:=gr) hu hq hul hql hx hok k_1 k_2 k_3 serial
     have hC2:=MA (gr:=gr) hu hq hul hql hx' hok' k_1 k_2 k_3 serial
     have hU1:=Mz (gr:=gr) hu hq hul hql hx hok k_1 k_2
     have hU2:=Mz (gr:=gr) hu hq hul hql hx' hok' k_1 k_2
     have hV1:=CS (gr:=gr) hu hq hul hql hx hok a_1 a_2 a_3 a_4 a_5 a_6 a_7 a_8 a_9 a_10 a_11 a_12 a_13 a_14 a_15 a_16 hax hal
     have hV2:=CS (gr:=gr) hu hq hul hql hx' hok' a_1 a_2 a_3 a_4 a_5 a_6 a_7 a_8 a_9 a_10 a_11 a_12 a_13 a_14 a_15 a_16 hax hal
     have zS : ∃(s:Ses) (e:Int),sesA us qs gr l ⟨k_1,k_2,k_3⟩ = .tup [s.av,aI e]:=by
      unfold sesA
      rw[ho]
      dsimp only
      split
      ·exact⟨_,_,rfl⟩
      ·exact⟨⟨false,0,0⟩,8,rfl⟩
     have zC : ∃(s:Int) (e:Int),zA us qs gr l ⟨k_1,k_2,k_3⟩ serial = .tup [aI s,aI e]:=by
      unfold zA
      rw[ho]
      dsimp only
      split
      ·exact wB _ _ _
      ·exact⟨_,_,rfl⟩
     have zU : ∃(q:Quota) (e:Int),ye us qs gr l k_1 k_2 = .tup [.agg q.enc,aI e]:=by
      unfold ye
      rw[ho]
      dsimp only
      split
      ·exact⟨_,_,rfl⟩
      ·exact⟨⟨0,0,0,0,0⟩,8,rfl⟩
     have zV : ∃(s:Int) (e:Int),verA us qs gr l (⟨a_1,⟨a_2,a_3,a_4⟩,a_5,⟨⟨⟨a_6,a_7,a_8⟩,a_9⟩,a_10⟩,⟨⟨a_11,a_12,a_13⟩,a_14⟩,⟨a_15,a_16⟩,al⟩:Opn) = .tup [aI s,aI e]:=by
      unfold verA
      rw[ho]
      dsimp only
      split
      ·exact⟨_,_,rfl⟩
      ·exact⟨_,_,rfl⟩
     have key:leqL ⟨k_1,k_2⟩ ⟨v1,v2⟩=true→limf env 27 [.agg [xu,xq,aI gr],x',.agg [a8 k_1,a32 k_2,a8 k_3]]=some (sesA us qs gr l ⟨k_1,k_2,k_3⟩)∧limf env 29 [.agg [xu,xq,aI gr],x',.agg [a8 k_1,a32 k_2,a8 k_3],aI serial]=some (zA us qs gr l ⟨k_1,k_2,k_3⟩ serial)∧limf env 31 [.agg [xu,xq,aI gr],x',.agg [a8 k_1,a32 k_2]]=some (ye us qs gr l k_1 k_2):=by
      intro hlk
      refine⟨?_,?_,?_⟩
      ·rw[hS2];exact congrArg some (KQ ho ho' hB hrl hn (k:=⟨k_1,k_2,k_3⟩) hlk)
      ·rw[hC2];exact congrArg some (J0 ho ho' hB hrl hn (k:=⟨k_1,k_2,k_3⟩) hlk serial)
      ·rw[hU2];exact congrArg some (HH ho ho' hB hrl hn ⟨k_1,k_2⟩ hlk)
     have keyV:leqL ⟨a_2,a_3⟩ ⟨v1,v2⟩=true→limf env 17 [.agg [xu,xq,aI gr],x',.agg [a8 a_1,a8 a_2,a32 a_3,a8 a_4,aI a_5,a8 a_6,a32 a_7,a8 a_8,aI a_9,aI a_10,a8 a_11,a32 a_12,a8 a_13,aI a_14,a8 a_15,a32 a_16,x]]=some (verA us qs gr l (⟨a_1,⟨a_2,a_3,a_4⟩,a_5,⟨⟨⟨a_6,a_7,a_8⟩,a_9⟩,a_10⟩,⟨⟨a_11,a_12,a_13⟩,a_14⟩,⟨a_15,a_16⟩,al⟩:Opn)):=by
      intro hla
      rw[hV2]
      exact congrArg some (KA ho ho' hB hrl hn hla)
     clear hS2 hC2 hU2 hV2
     obtain⟨⟨q1,q2,q3⟩,e1,zS⟩:=zS
     obtain⟨c1,e2,zC⟩:=zC
     obtain⟨⟨u1,u2,u3,u4,u5⟩,e3,zU⟩:=zU
     obtain⟨d1,e4,zV⟩:=zV
     rw[zS,zC,zU]at key
     rw[zV]at keyV
     rw[zS]at hS1
     rw[zC]at hC1
     rw[zU]at hU1
     rw[zV]at hV1
     simp only[Ses.av,Quota.enc]at key hS1 hU1
     have ru:=hu.r
     have rq:=hq.r
     have rx:=hx.r
     have ra:=hax.r
     have rx':=hx'.r
     have w1:=s1.r
     have w2:=s2.r
     have w3:=s3.r
     have w4:=s4.r
     have w5:=sh.r
     have w6:=sh'.r
     have w7:=sz.r
     clear hl b4 hok ho ht hok' ho' hB hk hk' hx' s1 s2 s3 s4 sh sh' sz zS zC zU zV hrl hn hu hq hx hax
     generalize leqL ⟨k_1,k_2⟩ ⟨v1,v2⟩=lk at *
     generalize leqL ⟨a_2,a_3⟩ ⟨v1,v2⟩=la at *
     generalize b.gr=bgr at *
     generalize eg b.us=ecs at *
     generalize bN b.hist=eos at *
     cases lk with
     | false =>
      clear key
      cases la with
      | false =>
       clear keyV
       simp[af,ah,ad,ae,ab, *,aZ,eqA,eqFs, -sK, -qD]
      | true =>
       have keyV:=keyV rfl
       simp[af,ah,ad,ae,ab, *,aZ,eqA,eqFs, -sK, -qD]
     | true =>
      obtain⟨k1,k2,k3⟩:=key rfl
      cases la with
      | false =>
       clear keyV
       simp[af,ah,ad,ae,ab, *,aZ,eqA,eqFs, -sK, -qD]
      | true =>
       have keyV:=keyV rfl
       simp[af,ah,ad,ae,ab, *,aZ,eqA,eqFs, -sK, -qD]
    ·rw[if_neg hv]at hoA
     subst hoA
     clear hl b4 hok ho ht
     simp[af,ah,ad,ae,ab, *,aZ,hx.r,hu.r,hq.r,hax.r]
end
end Go.Proofs.YtmkmimgokagimaaGreat
