/-
  What is granted fits, and is granted once: the law's walk. No statement of a seat is proved here.
-/
import Derived.Test.YtmkmimgokagimaaGreatMLeAdm5
import Derived.Test.YtmkmimgokagimaaGreatLeVl11
set_option linter.unusedVariables false
set_option linter.unusedSimpArgs false
set_option linter.unusedSectionVars false
set_option linter.unnecessarySimpa false
set_option maxRecDepth 100000
namespace Go.Proofs.YtmkmimgokagimaaGreat
open Go.Ab
set_option maxHeartbeats 4000000
attribute [local simp] bj aL aF bg bf keep thr bx aT bc da cZ cJ bD aD bM List.take_of_length_le
theorem Cb(c:Int):limf env 61 [b8 c,b8 c]=some (aB true):=by
 have h:=Wn (p:=(zRcd,aNil)) (q:=(zRcd,aNil)) ⟨.inl ⟨rfl,rfl⟩,by decide⟩ ⟨.inl ⟨rfl,rfl⟩,by decide⟩
 rw[wi]at h
 unfold Rcd.val zRcd HU at h
 refine aw (fn:=Tryz.f61) (c:=lH) rfl (by kernel_rfl) (by kernel_rfl) (by kernel_rfl) (by kernel_rfl) ?_;refine pZ _ _ _ _ fun g=>?_
 unfold b8
 simp only at h
 simp[af,ah,ad,ae,ab, *,lN]
def Sh1(px x1 hx:AV)(er:List AV)(user:Int)(h1:UInt8)(h2:UInt32)(h3:UInt8):Prop :=
 (∃c e,limf env 49 [px,x1,hx,aI user]=some (.tup [b8 c,aI e])) ∨
 (limf env 49 [px,x1,hx,aI user]=some (.tup [.agg [aI 0,aB true,a8 1,aI user,a8 0,a8 h1,a32 h2,a8 h3,aI 0,a8 0,a32 0,a8 0,aI 0,aI 0,a8 0,a32 0,a8 0,aI 0,a8 0,a32 0,aNil,aI 0,aI 0,a8 0,a32 0,aB false],aI 0]) ∧
  limf env 23 [px,x1,.agg [a8 1,aI user,a8 0,a8 h1,a32 h2,a8 h3,aI 0,a8 0,a32 0,a8 0,aI 0,aI 0,a8 0,a32 0,a8 0,aI 0,a8 0,a32 0,aNil,aI 0,aI 0,a8 0,a32 0,aB false]]=some (.tup [aB true,aI 0]) ∧
  limf env 49 [px,.isl 24 (er++[.agg [a8 1,aI user,a8 0,a8 h1,a32 h2,a8 h3,aI 0,a8 0,a32 0,a8 0,aI 0,aI 0,a8 0,a32 0,a8 0,aI 0,a8 0,a32 0,aNil,aI 0,aI 0,a8 0,a32 0,aB false]]) none,hx,aI user]=some (.tup [b8 0,aI 0]))
def Sh2(px x1 hx ox:AV)(er:List AV)(o:Opn)(tx:AV):Prop :=
 (limf env 52 [px,x1,hx,ox]=some (.tup [b8 0,aI 8]))∨(∃c,limf env 52 [px,x1,hx,ox]=some (.tup [b8 c,aI 0])) ∨
 (∃ve,limf env 52 [px,x1,hx,ox]=some (.tup [(Rul.mk ve true (opR o ve) tx).av,aI 0])∧limf env 23 [px,x1,(opR o ve).val tx]=some (.tup [aB true,aI 0]) ∧
  limf env 52 [px,.isl 24 (er++[(opR o ve).val tx]) none,hx,ox]=some (.tup [b8 ve,aI 0]))
section
variable{xu xq:AV}{us:List Clear}{qs:List Quota}{gr:Int}(hu:Sl 3 (eN us) xu)(hq:Sl 5 (eQ qs) xq){l:List (Rcd × AV)}{x1:AV}(hx:Sl 24 (dX l) x1)
include hu hq hx
theorem RG(hl : ∀p∈l,okRc p)(hll:l.length≤25)(hul:us.length<1000000)(hql:qs.length<1000000)(h_1:UInt8)(h_2:UInt32)(h_3:UInt8)(user:Int):Sh1 (.agg [xu,xq,aI gr]) x1 (.agg [a8 h_1,a32 h_2,a8 h_3]) (dX l) user h_1 h_2 h_3:=by
 have hO:=MV (gr:=gr) hu hq hul hql hx hl h_1 h_2 h_3 user
 rcases He (us:=us) (qs:=qs) (gr:=gr) (l:=l) (by omega) ⟨h_1,h_2,h_3⟩ user with ⟨c,e,h⟩ | ⟨b,ho,hh,h,hI,hf,h2⟩
 ·rw[h]at hO
  exact .inl ⟨c,e,hO⟩
 ·right
  rw[h]at hO
  have hF:=MW (gr:=gr) hu hq hul hql hx hl 1 user 0 h_1 h_2 h_3 0 0 0 0 0 0 0 0 0 0 0 0 0 0 0 0 false (x:=aNil) (al:=[]) (.inl ⟨rfl,rfl⟩) (by decide)
  have hen:dX (l++[(mT ⟨h_1,h_2,h_3⟩ user,aNil)])=dX l++[.agg [a8 1,aI user,a8 0,a8 h_1,a32 h_2,a8 h_3,aI 0,a8 0,a32 0,a8 0,aI 0,aI 0,a8 0,a32 0,a8 0,aI 0,a8 0,a32 0,aNil,aI 0,aI 0,a8 0,a32 0,aB false]]:=by simp[dX];rfl
  have hx2:Sl 24 (dX (l++[(mT ⟨h_1,h_2,h_3⟩ user,aNil)])) (.isl 24 (dX (l++[(mT ⟨h_1,h_2,h_3⟩ user,aNil)])) none):=Sl.mk _ _
  have hO2:=MV (gr:=gr) hu hq hul hql hx2 (fun p hp=>by
   rcases List.mem_append.1 hp with hp | hp
   ·exact hl p hp
   ·rw[List.mem_singleton]at hp;subst hp;exact⟨.inl ⟨rfl,rfl⟩,by show(0:Nat)<1000000;decide⟩) h_1 h_2 h_3 user
  rw[h2,hen]at hO2
  refine⟨hO,?_,hO2⟩
  refine Eq.trans hF ?_
  unfold fitA
  rw[ho]
  show some (if iI (mT ⟨h_1,h_2,h_3⟩ user)=true then AV.tup [aB (oy us qs gr b (mT ⟨h_1,h_2,h_3⟩ user)),aI 0] else AV.tup [aB false,aI 8])=_
  rw[if_pos hI,hf]
theorem RF(hl : ∀p∈l,okRc p)(hll:l.length≤25)(hul:us.length<1000000)(hql:qs.length<1000000)(h_1:UInt8)(h_2:UInt32)(h_3:UInt8)(a_1:UInt8)(a_2:UInt8)(a_3:UInt32)(a_4:UInt8)(a_5:Int)(a_6:UInt8)(a_7:UInt32)(a_8:UInt8)(a_9:Int)(a_10:Int)(a_11:UInt8)(a_12:UInt32)(a_13:UInt8)(a_14:Int)(a_15:UInt8)(a_16:UInt32){x:AV}{al:List Int}(hax:Sl 1 (rows al) x)(hal:al.length<1000000):Sh2 (.agg [xu,xq,aI gr]) x1 (.agg [a8 h_1,a32 h_2,a8 h_3]) (.agg [a8 a_1,a8 a_2,a32 a_3,a8 a_4,aI a_5,a8 a_6,a32 a_7,a8 a_8,aI a_9,aI a_10,a8 a_11,a32 a_12,a8 a_13,aI a_14,a8 a_15,a32 a_16,x]) (dX l) (⟨a_1,⟨a_2,a_3,a_4⟩,a_5,⟨⟨⟨a_6,a_7,a_8⟩,a_9⟩,a_10⟩,⟨⟨a_11,a_12,a_13⟩,a_14⟩,⟨a_15,a_16⟩,al⟩:Opn) (lQ x):=by
 have hS:=F0 (gr:=gr) hu hq hul hql hx hl h_1 h_2 h_3 a_1 a_2 a_3 a_4 a_5 a_6 a_7 a_8 a_9 a_10 a_11 a_12 a_13 a_14 a_15 a_16 hax hal
 rcases Io (us:=us) (qs:=qs) (gr:=gr) (l:=l) (by omega) ⟨h_1,h_2,h_3⟩ (⟨a_1,⟨a_2,a_3,a_4⟩,a_5,⟨⟨⟨a_6,a_7,a_8⟩,a_9⟩,a_10⟩,⟨⟨a_11,a_12,a_13⟩,a_14⟩,⟨a_15,a_16⟩,al⟩:Opn) x with h | ⟨c,h⟩ | ⟨b,ho,hh,h,hI,hf,h2⟩
 ·rw[h]at hS
  exact .inl hS
 ·rw[h]at hS
  exact .inr (.inl ⟨c,hS⟩)
 ·right;right
  rw[h]at hS
  obtain⟨y,hy,hys,_⟩:=zb a_1 a_2 a_3 a_4 a_5 a_6 a_7 a_8 a_9 a_10 a_11 a_12 a_13 a_14 a_15 a_16 hax hal
  rw[hy]at hys
  have hF:=MW (gr:=gr) hu hq hul hql hx hl 2 0 a_1 a_2 a_3 a_4 a_5 a_6 a_7 a_8 a_9 a_10 a_11 a_12 a_13 a_14 a_15 a_16 (bw us qs gr b (⟨a_1,⟨a_2,a_3,a_4⟩,a_5,⟨⟨⟨a_6,a_7,a_8⟩,a_9⟩,a_10⟩,⟨⟨a_11,a_12,a_13⟩,a_14⟩,⟨a_15,a_16⟩,al⟩:Opn)) 0 0 0 false hys hal
  have hx2:Sl 24 (dX (l++[(opR (⟨a_1,⟨a_2,a_3,a_4⟩,a_5,⟨⟨⟨a_6,a_7,a_8⟩,a_9⟩,a_10⟩,⟨⟨a_11,a_12,a_13⟩,a_14⟩,⟨a_15,a_16⟩,al⟩:Opn) (bw us qs gr b (⟨a_1,⟨a_2,a_3,a_4⟩,a_5,⟨⟨⟨a_6,a_7,a_8⟩,a_9⟩,a_10⟩,⟨⟨a_11,a_12,a_13⟩,a_14⟩,⟨a_15,a_16⟩,al⟩:Opn)),lQ x)])) (.isl 24 (dX (l++[(opR (⟨a_1,⟨a_2,a_3,a_4⟩,a_5,⟨⟨⟨a_6,a_7,a_8⟩,a_9⟩,a_10⟩,⟨⟨a_11,a_12,a_13⟩,a_14⟩,⟨a_15,a_16⟩,al⟩:Opn) (bw us qs gr b (⟨a_1,⟨a_2,a_3,a_4⟩,a_5,⟨⟨⟨a_6,a_7,a_8⟩,a_9⟩,a_10⟩,⟨⟨a_11,a_12,a_13⟩,a_14⟩,⟨a_15,a_16⟩,al⟩:Opn)),lQ x)])) none):=Sl.mk _ _
  have hS2:=F0 (gr:=gr) hu hq hul hql hx2 (fun p hp=>by
   rcases List.mem_append.1 hp with hp | hp
   ·exact hl p hp
   ·rw[List.mem_singleton]at hp;subst hp;exact⟨hys,hal⟩) h_1 h_2 h_3 a_1 a_2 a_3 a_4 a_5 a_6 a_7 a_8 a_9 a_10 a_11 a_12 a_13 a_14 a_15 a_16 hax hal
  have hen:dX (l++[(opR (⟨a_1,⟨a_2,a_3,a_4⟩,a_5,⟨⟨⟨a_6,a_7,a_8⟩,a_9⟩,a_10⟩,⟨⟨a_11,a_12,a_13⟩,a_14⟩,⟨a_15,a_16⟩,al⟩:Opn) (bw us qs gr b (⟨a_1,⟨a_2,a_3,a_4⟩,a_5,⟨⟨⟨a_6,a_7,a_8⟩,a_9⟩,a_10⟩,⟨⟨a_11,a_12,a_13⟩,a_14⟩,⟨a_15,a_16⟩,al⟩:Opn)),lQ x)])=dX l++[(opR (⟨a_1,⟨a_2,a_3,a_4⟩,a_5,⟨⟨⟨a_6,a_7,a_8⟩,a_9⟩,a_10⟩,⟨⟨a_11,a_12,a_13⟩,a_14⟩,⟨a_15,a_16⟩,al⟩:Opn) (bw us qs gr b (⟨a_1,⟨a_2,a_3,a_4⟩,a_5,⟨⟨⟨a_6,a_7,a_8⟩,a_9⟩,a_10⟩,⟨⟨a_11,a_12,a_13⟩,a_14⟩,⟨a_15,a_16⟩,al⟩:Opn))).val (lQ x)]:=by simp[dX]
  rw[h2,hen]at hS2
  refine⟨_,hS,?_,hS2⟩
  refine Eq.trans hF ?_
  unfold fitA
  rw[ho]
  show some (if iI (opR (⟨a_1,⟨a_2,a_3,a_4⟩,a_5,⟨⟨⟨a_6,a_7,a_8⟩,a_9⟩,a_10⟩,⟨⟨a_11,a_12,a_13⟩,a_14⟩,⟨a_15,a_16⟩,al⟩:Opn) (bw us qs gr b (⟨a_1,⟨a_2,a_3,a_4⟩,a_5,⟨⟨⟨a_6,a_7,a_8⟩,a_9⟩,a_10⟩,⟨⟨a_11,a_12,a_13⟩,a_14⟩,⟨a_15,a_16⟩,al⟩:Opn)))=true then AV.tup [aB (oy us qs gr b (opR (⟨a_1,⟨a_2,a_3,a_4⟩,a_5,⟨⟨⟨a_6,a_7,a_8⟩,a_9⟩,a_10⟩,⟨⟨a_11,a_12,a_13⟩,a_14⟩,⟨a_15,a_16⟩,al⟩:Opn) (bw us qs gr b (⟨a_1,⟨a_2,a_3,a_4⟩,a_5,⟨⟨⟨a_6,a_7,a_8⟩,a_9⟩,a_10⟩,⟨⟨a_11,a_12,a_13⟩,a_14⟩,⟨a_15,a_16⟩,al⟩:Opn)))),aI 0] else AV.tup [aB false,aI 8])=_
  rw[if_pos hI,hf]
theorem PX(hA:limf env 53 []=some (aB true))(hl : ∀p∈l,Sl 1 (rows p.1.op.l) p.2)(h_1:UInt8)(h_2:UInt32)(h_3:UInt8)(user:Int)(a_1:UInt8)(a_2:UInt8)(a_3:UInt32)(a_4:UInt8)(a_5:Int)(a_6:UInt8)(a_7:UInt32)(a_8:UInt8)(a_9:Int)(a_10:Int)(a_11:UInt8)(a_12:UInt32)(a_13:UInt8)(a_14:Int)(a_15:UInt8)(a_16:UInt32){x:AV}{al:List Int}(hax:Sl 1 (rows al) x) :
 limf env 11 [.agg [xu,xq,aI gr],x1,.agg [a8 h_1,a32 h_2,a8 h_3],aI user,.agg [a8 a_1,a8 a_2,a32 a_3,a8 a_4,aI a_5,a8 a_6,a32 a_7,a8 a_8,aI a_9,aI a_10,a8 a_11,a32 a_12,a8 a_13,aI a_14,a8 a_15,a32 a_16,x]]=some (aB true):=by
 obtain⟨t,hG,ht⟩:=Lk (gr:=gr) hu hq hx hl 25
 refine aw (fn:=Tryz.f11) (c:=iD) rfl (by kernel_rfl) (by kernel_rfl) (by kernel_rfl) (by kernel_rfl) ?_;refine mS _ _ _ _ _ _ _ fun g=>?_
 cases t with
 | true =>
  clear hl
  simp[af,ah,ad,ae,ab, *,aj,hx.r,hu.r,hq.r,hax.r]
 | false =>
  obtain⟨b1,b2,b3,b4⟩:=ht rfl
  have hll:l.length≤25:=by omega
  by_cases h300:(300:Int)<al.length
  ·clear hl b4
   simp[af,ah,ad,ae,ab, *,aj,hx.r,hu.r,hq.r,hax.r]
  ·have hal:al.length<1000000:=by omega
   have hok : ∀p∈l,okRc p:=fun p hp=>⟨hl p hp,by have:=b4 p (by rw[List.take_of_length_le (by omega)];exact hp);omega⟩
   have hul:us.length<1000000:=by omega
   have hql:qs.length<1000000:=by omega
   have f1:=RG (gr:=gr) hu hq hx hok hll hul hql h_1 h_2 h_3 user
   have f2:=RF (gr:=gr) hu hq hx hok hll hul hql h_1 h_2 h_3 a_1 a_2 a_3 a_4 a_5 a_6 a_7 a_8 a_9 a_10 a_11 a_12 a_13 a_14 a_15 a_16 hax hal
   obtain⟨yt,hyt,hyts,_⟩:=zb a_1 a_2 a_3 a_4 a_5 a_6 a_7 a_8 a_9 a_10 a_11 a_12 a_13 a_14 a_15 a_16 hax hal
   have r7:=hyts.r
   rw[hyt]at r7
   have hel:=vj l
   have ru:=hu.r
   have rq:=hq.r
   have rx:=hx.r
   have ra:=hax.r
   unfold Sh1 at f1
   unfold Sh2 at f2
   unfold Rul.av Rcd.val opR at f2
   simp only at f2
   generalize lQ x=tx at *
   clear hl b4 ht hok hax hu hq hyt hyts
   generalize dX l=er at *
   generalize l.length=n at *
   have hn:n≤25:=hll
   clear hll b1 b2 b3
   unfold b8 at f1 f2
   rcases hx with ⟨rfl,rfl⟩ | ⟨cc,rfl,hcc⟩
   ·simp only[List.nil_append]at f1 f2
    clear hel rx
    rcases f1 with ⟨c1,e1,hO⟩ | ⟨hO,hF1,hO2⟩
    ·by_cases h0:e1=0
     ·subst h0
      rcases f2 with hS | ⟨c2,hS⟩ | ⟨ve,hS,hF2,hS2⟩
      ·simp[af,ah,ad,ae,ab, *,aj,b8]
      ·have hR:=Cb c2;unfold b8 at hR;simp[af,ah,ad,ae,ab, *,aj,b8]
      ·simp[af,ah,ad,ae,ab, *,aj,b8]
     ·skip
      rcases f2 with hS | ⟨c2,hS⟩ | ⟨ve,hS,hF2,hS2⟩
      ·simp[af,ah,ad,ae,ab, *,aj,b8]
      ·have hR:=Cb c2;unfold b8 at hR;simp[af,ah,ad,ae,ab, *,aj,b8]
      ·simp[af,ah,ad,ae,ab, *,aj,b8]
    ·skip
     rcases f2 with hS | ⟨c2,hS⟩ | ⟨ve,hS,hF2,hS2⟩
     ·simp[af,ah,ad,ae,ab, *,aj,b8]
     ·have hR:=Cb c2;unfold b8 at hR;simp[af,ah,ad,ae,ab, *,aj,b8]
     ·simp[af,ah,ad,ae,ab, *,aj,b8]
   ·by_cases he:er=[]
    ·subst he
     simp only[List.nil_append]at f1 f2
     clear hel
     rcases f1 with ⟨c1,e1,hO⟩ | ⟨hO,hF1,hO2⟩
     ·by_cases h0:e1=0
      ·subst h0
       rcases f2 with hS | ⟨c2,hS⟩ | ⟨ve,hS,hF2,hS2⟩
       ·simp[af,ah,ad,ae,ab, *,aj,b8]
       ·have hR:=Cb c2;unfold b8 at hR;simp[af,ah,ad,ae,ab, *,aj,b8]
       ·simp[af,ah,ad,ae,ab, *,aj,b8]
      ·skip
       rcases f2 with hS | ⟨c2,hS⟩ | ⟨ve,hS,hF2,hS2⟩
       ·simp[af,ah,ad,ae,ab, *,aj,b8]
       ·have hR:=Cb c2;unfold b8 at hR;simp[af,ah,ad,ae,ab, *,aj,b8]
       ·simp[af,ah,ad,ae,ab, *,aj,b8]
     ·skip
      rcases f2 with hS | ⟨c2,hS⟩ | ⟨ve,hS,hF2,hS2⟩
      ·simp[af,ah,ad,ae,ab, *,aj,b8]
      ·have hR:=Cb c2;unfold b8 at hR;simp[af,ah,ad,ae,ab, *,aj,b8]
      ·simp[af,ah,ad,ae,ab, *,aj,b8]
    ·have hpos:0<n:=by rw[←hel];exact List.length_pos_iff.2 he
     have f0:n * 160≤140737488355328:=by omega
     have f6 : ∀cs:List AV,oF 24 160 n true none (some ⟨24,er,true,false⟩) (some [.agg cs]):=by intro cs;simp;omega
     rcases f1 with ⟨c1,e1,hO⟩ | ⟨hO,hF1,hO2⟩
     ·by_cases h0:e1=0
      ·subst h0
       rcases f2 with hS | ⟨c2,hS⟩ | ⟨ve,hS,hF2,hS2⟩
       ·simp[af,ah,ad,ae,ab, *,aj,b8,he]
       ·have hR:=Cb c2;unfold b8 at hR;simp[af,ah,ad,ae,ab, *,aj,b8,he]
       ·simp[af,ah,ad,ae,ab, *,aj,b8,he]
      ·skip
       rcases f2 with hS | ⟨c2,hS⟩ | ⟨ve,hS,hF2,hS2⟩
       ·simp[af,ah,ad,ae,ab, *,aj,b8,he]
       ·have hR:=Cb c2;unfold b8 at hR;simp[af,ah,ad,ae,ab, *,aj,b8,he]
       ·simp[af,ah,ad,ae,ab, *,aj,b8,he]
     ·skip
      rcases f2 with hS | ⟨c2,hS⟩ | ⟨ve,hS,hF2,hS2⟩
      ·simp[af,ah,ad,ae,ab, *,aj,b8,he]
      ·have hR:=Cb c2;unfold b8 at hR;simp[af,ah,ad,ae,ab, *,aj,b8,he]
      ·simp[af,ah,ad,ae,ab, *,aj,b8,he]
end
end Go.Proofs.YtmkmimgokagimaaGreat
