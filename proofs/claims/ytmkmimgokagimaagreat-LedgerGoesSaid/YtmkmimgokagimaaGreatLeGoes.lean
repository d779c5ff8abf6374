/-
  What fits counts once: the law's walk. No statement of a seat is proved here.
-/
import Derived.Test.YtmkmimgokagimaaGreatMLeVl5
set_option linter.unusedVariables false
set_option linter.unusedSimpArgs false
set_option linter.unusedSectionVars false
set_option linter.unnecessarySimpa false
set_option maxRecDepth 100000
namespace Go.Proofs.YtmkmimgokagimaaGreat
open Go.Ab
attribute [local simp] bx aZ aL bw bu keep thr bD bh bq dC dB cP bF aE cC List.take_of_length_le
theorem IV:limf env 36 []=some (aB true):=by
 refine rI.2 ⟨0,fun m _=>?_⟩
 rfl
section
variable{xu xq:AV}{us:List Clear}{qs:List Quota}{gr:Int}(hu:Sl 3 (gY us) xu)(hq:Sl 5 (iq qs) xq){l:List (Rcd × AV)}{x1:AV}(hx:Sl 24 (dA l) x1)(hl : ∀p∈l,Sl 1 (rows p.1.op.l) p.2)
include hu hq hx hl
theorem I3(k:UInt8)(u:Int)(a_1:UInt8)(a_2:UInt8)(a_3:UInt32)(a_4:UInt8)(a_5:Int)(a_6:UInt8)(a_7:UInt32)(a_8:UInt8)(a_9:Int)(a_10:Int)(a_11:UInt8)(a_12:UInt32)(a_13:UInt8)(a_14:Int)(a_15:UInt8)(a_16:UInt32)(c g1:Int)(v:UInt8)(w:UInt32)(o:Bool){x:AV}{al:List Int}(hax:Sl 1 (rows al) x) :
 limf env 5 [.agg [xu,xq,aI gr],x1,.agg [a8 k,aI u,a8 a_1,a8 a_2,a32 a_3,a8 a_4,aI a_5,a8 a_6,a32 a_7,a8 a_8,aI a_9,aI a_10,a8 a_11,a32 a_12,a8 a_13,aI a_14,a8 a_15,a32 a_16,x,aI c,aI g1,a8 v,a32 w,aB o]]=some (aB true):=by
 obtain⟨t,hG,ht⟩:=HV (gr:=gr) hu hq hx hl 25
 have hA:=IV
 refine aA (fn:=Tryz.f5) (c:=gN) rfl (by kernel_rfl) (by kernel_rfl) (by kernel_rfl) (by kernel_rfl) ?_;refine lU _ _ _ _ _ fun g=>?_
 cases t with
 | true =>
  clear hl
  simp[af,ah,ad,ae,ab, *,aw,hx.r,hu.r,hq.r,hax.r]
 | false =>
  obtain⟨b1,b2,b3,b4⟩:=ht rfl
  have hll:l.length≤25:=by omega
  by_cases h300:(300:Int)<al.length
  ·clear hl b4
   simp[af,ah,ad,ae,ab, *,aw,hx.r,hu.r,hq.r,hax.r]
  ·have hal:al.length<1000000:=by omega
   have hok : ∀p∈l,okRc p:=fun p hp=>⟨hl p hp,by have:=b4 p (by rw[List.take_of_length_le (by omega)];exact hp);omega⟩
   have hul:us.length<1000000:=by omega
   have hql:qs.length<1000000:=by omega
   have hF:=JJ (gr:=gr) hu hq hul hql hx hok k u a_1 a_2 a_3 a_4 a_5 a_6 a_7 a_8 a_9 a_10 a_11 a_12 a_13 a_14 a_15 a_16 c g1 v w o hax hal
   clear hl b4 ht
   unfold fitA at hF
   cases ho:ofA us qs gr l with
   | none =>
    rw[ho]at hF
    clear hok ho
    simp[af,ah,ad,ae,ab, *,aw,hx.r,hu.r,hq.r,hax.r]
   | some b =>
    rw[ho]at hF
    cases his:iG ⟨k,u,(⟨a_1,⟨a_2,a_3,a_4⟩,a_5,⟨⟨⟨a_6,a_7,a_8⟩,a_9⟩,a_10⟩,⟨⟨a_11,a_12,a_13⟩,a_14⟩,⟨a_15,a_16⟩,al⟩:Opn),c,g1,v,w,o⟩ with
    | false =>
     rw[his]at hF
     clear hok ho his
     simp[af,ah,ad,ae,ab, *,aw,hx.r,hu.r,hq.r,hax.r]
    | true =>
     rw[his]at hF
     simp only[if_true]at hF
     have hmo:okRc (⟨k,u,(⟨a_1,⟨a_2,a_3,a_4⟩,a_5,⟨⟨⟨a_6,a_7,a_8⟩,a_9⟩,a_10⟩,⟨⟨a_11,a_12,a_13⟩,a_14⟩,⟨a_15,a_16⟩,al⟩:Opn),c,g1,v,w,o⟩,x):=⟨hax,hal⟩
     have hok2 : ∀p∈l++[(⟨k,u,(⟨a_1,⟨a_2,a_3,a_4⟩,a_5,⟨⟨⟨a_6,a_7,a_8⟩,a_9⟩,a_10⟩,⟨⟨a_11,a_12,a_13⟩,a_14⟩,⟨a_15,a_16⟩,al⟩:Opn),c,g1,v,w,o⟩,x)],okRc p:=by
      intro p hp
      rcases List.mem_append.1 hp with hp | hp
      ·exact hok p hp
      ·rw[List.mem_singleton]at hp;rw[hp];exact hmo
     have hen:dA (l++[(⟨k,u,(⟨a_1,⟨a_2,a_3,a_4⟩,a_5,⟨⟨⟨a_6,a_7,a_8⟩,a_9⟩,a_10⟩,⟨⟨a_11,a_12,a_13⟩,a_14⟩,⟨a_15,a_16⟩,al⟩:Opn),c,g1,v,w,o⟩,x)])=dA l++[.agg [a8 k,aI u,a8 a_1,a8 a_2,a32 a_3,a8 a_4,aI a_5,a8 a_6,a32 a_7,a8 a_8,aI a_9,aI a_10,a8 a_11,a32 a_12,a8 a_13,aI a_14,a8 a_15,a32 a_16,x,aI c,aI g1,a8 v,a32 w,aB o]]:=by simp[dA,Rcd.val]
     have hx2:Sl 24 (dA (l++[(⟨k,u,(⟨a_1,⟨a_2,a_3,a_4⟩,a_5,⟨⟨⟨a_6,a_7,a_8⟩,a_9⟩,a_10⟩,⟨⟨a_11,a_12,a_13⟩,a_14⟩,⟨a_15,a_16⟩,al⟩:Opn),c,g1,v,w,o⟩,x)])) (.isl 24 (dA l++[.agg [a8 k,aI u,a8 a_1,a8 a_2,a32 a_3,a8 a_4,aI a_5,a8 a_6,a32 a_7,a8 a_8,aI a_9,aI a_10,a8 a_11,a32 a_12,a8 a_13,aI a_14,a8 a_15,a32 a_16,x,aI c,aI g1,a8 v,a32 w,aB o]]) none):=by rw[hen];exact Sl.mk _ _
     have hC2:=Fp (gr:=gr) hu hq hul hql hx2 hok2
     have hF2:=JJ (gr:=gr) hu hq hul hql hx2 hok2 k u a_1 a_2 a_3 a_4 a_5 a_6 a_7 a_8 a_9 a_10 a_11 a_12 a_13 a_14 a_15 a_16 c g1 v w o hax hal
     obtain⟨y,hO2,hoA⟩:=Oa (gr:=gr) hu hq hul hql hx2 hok2 15 4294967295
     have hap:=Lo us qs gr (⟨k,u,(⟨a_1,⟨a_2,a_3,a_4⟩,a_5,⟨⟨⟨a_6,a_7,a_8⟩,a_9⟩,a_10⟩,⟨⟨a_11,a_12,a_13⟩,a_14⟩,⟨a_15,a_16⟩,al⟩:Opn),c,g1,v,w,o⟩,x) (l:=l) (by omega)
     rw[ho,Option.bind_some]at hap
     simp only[his,true_and]at hap
     unfold fitA at hF2
     unfold Ll at hoA
     cases hf:pv us qs gr b ⟨k,u,(⟨a_1,⟨a_2,a_3,a_4⟩,a_5,⟨⟨⟨a_6,a_7,a_8⟩,a_9⟩,a_10⟩,⟨⟨a_11,a_12,a_13⟩,a_14⟩,⟨a_15,a_16⟩,al⟩:Opn),c,g1,v,w,o⟩ with
     | false =>
      rw[hf]at hF
      rw[hf,if_neg (by simp)]at hap
      rw[hap]at hC2 hF2 hoA
      subst hoA
      clear hok hok2 ho his hap hen hf hmo hx2
      simp only[Option.isSome_none]at hC2
      have hel:=lM l
      generalize dA l=er at *
      generalize l.length=n at *
      rcases hx with ⟨rfl,rfl⟩ | ⟨cc,rfl,hcc⟩
      ·clear hel
       simp only[List.nil_append]at hC2 hF2 hO2
       simp[af,ah,ad,ae,ab, *,aw,hu.r,hq.r,hax.r]
      ·by_cases he:er=[]
       ·subst he
        clear hel
        simp only[List.nil_append]at hC2 hF2 hO2
        simp[af,ah,ad,ae,ab, *,aw,hu.r,hq.r,hax.r]
       ·have hpos:0<n:=by rw[←hel];exact List.length_pos_iff.2 he
        have f0:n * 160≤140737488355328:=by omega
        have f6:jE 24 160 n true none (some ⟨24,er,true,false⟩) (some [.agg [a8 k,aI u,a8 a_1,a8 a_2,a32 a_3,a8 a_4,aI a_5,a8 a_6,a32 a_7,a8 a_8,aI a_9,aI a_10,a8 a_11,a32 a_12,a8 a_13,aI a_14,a8 a_15,a32 a_16,x,aI c,aI g1,a8 v,a32 w,aB o]]):=by simp;omega
        simp[af,ah,ad,ae,ab, *,aw,hu.r,hq.r,hax.r,he]
     | true =>
      rw[hf]at hF
      rw[hf,if_pos rfl]at hap
      have honce:k=3∨pv us qs gr (doR b (⟨k,u,(⟨a_1,⟨a_2,a_3,a_4⟩,a_5,⟨⟨⟨a_6,a_7,a_8⟩,a_9⟩,a_10⟩,⟨⟨a_11,a_12,a_13⟩,a_14⟩,⟨a_15,a_16⟩,al⟩:Opn),c,g1,v,w,o⟩,x)) ⟨k,u,(⟨a_1,⟨a_2,a_3,a_4⟩,a_5,⟨⟨⟨a_6,a_7,a_8⟩,a_9⟩,a_10⟩,⟨⟨a_11,a_12,a_13⟩,a_14⟩,⟨a_15,a_16⟩,al⟩:Opn),c,g1,v,w,o⟩=false:=by
       by_cases h3:k=3
       ·exact .inl h3
       ·exact .inr (once (p:=(⟨k,u,(⟨a_1,⟨a_2,a_3,a_4⟩,a_5,⟨⟨⟨a_6,a_7,a_8⟩,a_9⟩,a_10⟩,⟨⟨a_11,a_12,a_13⟩,a_14⟩,⟨a_15,a_16⟩,al⟩:Opn),c,g1,v,w,o⟩,x)) his hf h3)
      have hall:=OI hap
      rw[hap]at hC2 hF2 hoA
      simp only[his,if_true,Option.isSome_some]at hC2 hF2 hoA
      rw[if_pos (by decide),IE hall]at hoA
      obtain⟨x',hx',rfl⟩:=hoA
      have hS:=Fi hx' hx2 (fun p hp=>by
       obtain⟨q,hq,rfl⟩:=List.mem_map.1 hp
       have:=hok2 q hq
       exact⟨Bx this.1,this.2⟩) hok2 (by simp;omega)
      rw[Oj,DI]at hS
      generalize pv us qs gr (doR b (⟨k,u,(⟨a_1,⟨a_2,a_3,a_4⟩,a_5,⟨⟨⟨a_6,a_7,a_8⟩,a_9⟩,a_10⟩,⟨⟨a_11,a_12,a_13⟩,a_14⟩,⟨a_15,a_16⟩,al⟩:Opn),c,g1,v,w,o⟩,x)) ⟨k,u,(⟨a_1,⟨a_2,a_3,a_4⟩,a_5,⟨⟨⟨a_6,a_7,a_8⟩,a_9⟩,a_10⟩,⟨⟨a_11,a_12,a_13⟩,a_14⟩,⟨a_15,a_16⟩,al⟩:Opn),c,g1,v,w,o⟩=f2 at *
      obtain⟨c',er3,rfl⟩ : ∃c' es,x' = .isl 24 es c':=by
       rcases hx' with ⟨rfl,h⟩ | ⟨c',rfl,_⟩
       ·have:=congrArg List.length h;simp at this
       ·exact⟨c',_,rfl⟩
      clear hok hok2 ho his hap hen hf hmo hx2 hall hx'
      have hel:=lM l
      generalize dA l=er at *
      generalize l.length=n at *
      rcases honce with h3 | rfl
      ·subst h3
       rcases hx with ⟨rfl,rfl⟩ | ⟨cc,rfl,hcc⟩
       ·clear hel
        simp only[List.nil_append]at hC2 hF2 hO2 hS
        simp[af,ah,ad,ae,ab, *,aw,hu.r,hq.r,hax.r]
       ·by_cases he:er=[]
        ·subst he
         clear hel
         simp only[List.nil_append]at hC2 hF2 hO2 hS
         simp[af,ah,ad,ae,ab, *,aw,hu.r,hq.r,hax.r]
        ·have hpos:0<n:=by rw[←hel];exact List.length_pos_iff.2 he
         have f0:n * 160≤140737488355328:=by omega
         have f6:jE 24 160 n true none (some ⟨24,er,true,false⟩) (some [.agg [a8 3,aI u,a8 a_1,a8 a_2,a32 a_3,a8 a_4,aI a_5,a8 a_6,a32 a_7,a8 a_8,aI a_9,aI a_10,a8 a_11,a32 a_12,a8 a_13,aI a_14,a8 a_15,a32 a_16,x,aI c,aI g1,a8 v,a32 w,aB o]]):=by simp;omega
         simp[af,ah,ad,ae,ab, *,aw,hu.r,hq.r,hax.r,he]
      ·by_cases h3:k=3
       ·subst h3
        rcases hx with ⟨rfl,rfl⟩ | ⟨cc,rfl,hcc⟩
        ·clear hel
         simp only[List.nil_append]at hC2 hF2 hO2 hS
         simp[af,ah,ad,ae,ab, *,aw,hu.r,hq.r,hax.r]
        ·by_cases he:er=[]
         ·subst he
          clear hel
          simp only[List.nil_append]at hC2 hF2 hO2 hS
          simp[af,ah,ad,ae,ab, *,aw,hu.r,hq.r,hax.r]
         ·have hpos:0<n:=by rw[←hel];exact List.length_pos_iff.2 he
          have f0:n * 160≤140737488355328:=by omega
          have f6:jE 24 160 n true none (some ⟨24,er,true,false⟩) (some [.agg [a8 3,aI u,a8 a_1,a8 a_2,a32 a_3,a8 a_4,aI a_5,a8 a_6,a32 a_7,a8 a_8,aI a_9,aI a_10,a8 a_11,a32 a_12,a8 a_13,aI a_14,a8 a_15,a32 a_16,x,aI c,aI g1,a8 v,a32 w,aB o]]):=by simp;omega
          simp[af,ah,ad,ae,ab, *,aw,hu.r,hq.r,hax.r,he]
       ·rcases hx with ⟨rfl,rfl⟩ | ⟨cc,rfl,hcc⟩
        ·clear hel
         simp only[List.nil_append]at hC2 hF2 hO2 hS
         simp[af,ah,ad,ae,ab, *,aw,hu.r,hq.r,hax.r]
        ·by_cases he:er=[]
         ·subst he
          clear hel
          simp only[List.nil_append]at hC2 hF2 hO2 hS
          simp[af,ah,ad,ae,ab, *,aw,hu.r,hq.r,hax.r]
         ·have hpos:0<n:=by rw[←hel];exact List.length_pos_iff.2 he
          have f0:n * 160≤140737488355328:=by omega
          have f6:jE 24 160 n true none (some ⟨24,er,true,false⟩) (some [.agg [a8 k,aI u,a8 a_1,a8 a_2,a32 a_3,a8 a_4,aI a_5,a8 a_6,a32 a_7,a8 a_8,aI a_9,aI a_10,a8 a_11,a32 a_12,a8 a_13,aI a_14,a8 a_15,a32 a_16,x,aI c,aI g1,a8 v,a32 w,aB o]]):=by simp;omega
          simp[af,ah,ad,ae,ab, *,aw,hu.r,hq.r,hax.r,he]
end
end Go.Proofs.YtmkmimgokagimaaGreat
