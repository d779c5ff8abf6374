/-
  Runs: what the functions answer. No statement of a seat is proved here.
-/
import Derived.Test.YtmkmimgokagimaaGreatMOpFns
import Derived.Test.YtmkmimgokagimaaGreatLeDoc3
set_option linter.unusedVariables false
set_option linter.unusedSimpArgs false
set_option linter.unusedSectionVars false
set_option linter.unnecessarySimpa false
set_option maxRecDepth 100000
namespace Go.Proofs.YtmkmimgokagimaaGreat
open Go.Ab
attribute [local simp] bn aV aF bj bh keep thr bD aX bc dx dw cN bE aD ct List.take_of_length_le
@[simp] theorem G0(l:List Int)(n:Nat):(rows l).all (flat (n+1))=true:=by
 simp[rows,List.all_eq_true,aR]
theorem D9(a_1:UInt8)(a_2:UInt32)(a_3:UInt8)(a_4:Int)(a_5:Int)(a_6:UInt8)(a_7:UInt32)(a_8:UInt8)(a_9:Int){x:AV}{l:List Int}(hx:Sl 1 (rows l) x)(hl:l.length<1000000):limf env 240 [.agg [a8 a_1,a32 a_2,a8 a_3,aI a_4,aI a_5,a8 a_6,a32 a_7,a8 a_8,aI a_9,x]]=some (aI (bad (runB (⟨⟨⟨⟨a_1,a_2,a_3⟩,a_4⟩,a_5⟩,⟨⟨a_6,a_7,a_8⟩,a_9⟩,l⟩:Rn)))):=by
 refine az (fn:=Tryz.f240) (c:=uh) rfl (by kernel_rfl) (by kernel_rfl) (by kernel_rfl) (by kernel_rfl) ?_;refine Ap _ _ _ fun g=>?_
 have h1:=vB hx (by omega)
 have h2:=AI l
 have hr:((⟨⟨a_6,a_7,a_8⟩,a_9⟩:Idd)=Ah)=((decide (a_6=0)&&decide (a_7=0)&&decide (a_8=0)&&decide (a_9=0))=true):=by simp[Ah,and_assoc]
 unfold runB
 simp only[hr]
 cases hz:(decide (a_6=0)&&decide (a_7=0)&&decide (a_8=0)&&decide (a_9=0)) with
 | true =>
  simp[af,ah,ad,ae,ab, *,pY,hx.r,eqA,eqFs]
  repeat' ((first | refine mM (fun h=>?_) (fun h=>?_) | refine kD (fun h=>?_) (fun h=>?_) | refine kE (fun h=>?_) (fun h=>?_) | refine kB (fun h=>?_) (fun h=>?_) | refine kC (fun h=>?_) (fun h=>?_))<;>(try simp only[decide_eq_true_eq,decide_eq_false_iff_not,Bool.not_eq_true',Bool.not_eq_false',Bool.and_eq_true,Bool.or_eq_true]at h)<;>(try simp[af,ah,ad,ae,ab, *,hx.r]))
 | false =>
  simp[af,ah,ad,ae,ab, *,pY,hx.r,eqA,eqFs]
  repeat' ((first | refine mM (fun h=>?_) (fun h=>?_) | refine kD (fun h=>?_) (fun h=>?_) | refine kE (fun h=>?_) (fun h=>?_) | refine kB (fun h=>?_) (fun h=>?_) | refine kC (fun h=>?_) (fun h=>?_))<;>(try simp only[decide_eq_true_eq,decide_eq_false_iff_not,Bool.not_eq_true',Bool.not_eq_false',Bool.and_eq_true,Bool.or_eq_true]at h)<;>(try simp[af,ah,ad,ae,ab, *,hx.r]))
theorem JZ{r:Rn}(h:runB r=true):ke r.s=true∧(r.l.length:Int)=r.s.many:=by
 simp[runB]at h;exact⟨h.1,h.2.2.1⟩
def ofE(o:Opn):Int:=if opB o then (if o.kind=1∧runB ⟨o.s,o.a,o.l⟩=true then 0 else 2) else 8
theorem K5(a_1:UInt8)(a_2:UInt8)(a_3:UInt32)(a_4:UInt8)(a_5:Int)(a_6:UInt8)(a_7:UInt32)(a_8:UInt8)(a_9:Int)(a_10:Int)(a_11:UInt8)(a_12:UInt32)(a_13:UInt8)(a_14:Int)(a_15:UInt8)(a_16:UInt32){x:AV}{l:List Int}(hx:Sl 1 (rows l) x)(hl:l.length<1000000):limf env 231 [.agg [a8 a_1,a8 a_2,a32 a_3,a8 a_4,aI a_5,a8 a_6,a32 a_7,a8 a_8,aI a_9,aI a_10,a8 a_11,a32 a_12,a8 a_13,aI a_14,a8 a_15,a32 a_16,x]] =
 some (if ofE (⟨a_1,⟨a_2,a_3,a_4⟩,a_5,⟨⟨⟨a_6,a_7,a_8⟩,a_9⟩,a_10⟩,⟨⟨a_11,a_12,a_13⟩,a_14⟩,⟨a_15,a_16⟩,l⟩:Opn)=0 then .tup [.agg [a8 a_6,a32 a_7,a8 a_8,aI a_9,aI a_10,a8 a_11,a32 a_12,a8 a_13,aI a_14,.isl 1 (rows l) none],aI 0]
  else .tup [.agg [a8 0,a32 0,a8 0,aI 0,aI 0,a8 0,a32 0,a8 0,aI 0,aNil],aI (ofE (⟨a_1,⟨a_2,a_3,a_4⟩,a_5,⟨⟨⟨a_6,a_7,a_8⟩,a_9⟩,a_10⟩,⟨⟨a_11,a_12,a_13⟩,a_14⟩,⟨a_15,a_16⟩,l⟩:Opn))]):=by
 have h1:=kf a_1 a_2 a_3 a_4 a_5 a_6 a_7 a_8 a_9 a_10 a_11 a_12 a_13 a_14 a_15 a_16 hx (by omega)
 have h3:=AF hx (by omega) (by omega)
 cases c1:opB (⟨a_1,⟨a_2,a_3,a_4⟩,a_5,⟨⟨⟨a_6,a_7,a_8⟩,a_9⟩,a_10⟩,⟨⟨a_11,a_12,a_13⟩,a_14⟩,⟨a_15,a_16⟩,l⟩:Opn) with
 | false =>
  have e:ofE (⟨a_1,⟨a_2,a_3,a_4⟩,a_5,⟨⟨⟨a_6,a_7,a_8⟩,a_9⟩,a_10⟩,⟨⟨a_11,a_12,a_13⟩,a_14⟩,⟨a_15,a_16⟩,l⟩:Opn)=8:=by simp[ofE,c1]
  refine az (fn:=Tryz.f231) (c:=mG) rfl (by kernel_rfl) (by kernel_rfl) (by kernel_rfl) (by kernel_rfl) ?_;refine nF _ _ _ fun g=>?_
  simp[af,ah,ad,ae,ab, *,kP,hx.r]
 | true =>
  have h2:=fun {y:AV} (hy:Sl 1 (rows l) y)=>D9 a_6 a_7 a_8 a_9 a_10 a_11 a_12 a_13 a_14 hy hl
  by_cases he:l=[]
  ·have e:ofE (⟨a_1,⟨a_2,a_3,a_4⟩,a_5,⟨⟨⟨a_6,a_7,a_8⟩,a_9⟩,a_10⟩,⟨⟨a_11,a_12,a_13⟩,a_14⟩,⟨a_15,a_16⟩,l⟩:Opn)=2:=by
    simp only[ofE,c1,if_true]
    rw[if_neg]
    rintro⟨_,h⟩
    have hr:=JZ h
    simp only at hr
    have hn:=k6 hr.1
    simp only at hn
    rw[he]at hr
    simp at hr
    omega
   have hrb:runB ⟨⟨⟨⟨a_6,a_7,a_8⟩,a_9⟩,a_10⟩,⟨⟨a_11,a_12,a_13⟩,a_14⟩,l⟩=false:=by
    cases h2:runB ⟨⟨⟨⟨a_6,a_7,a_8⟩,a_9⟩,a_10⟩,⟨⟨a_11,a_12,a_13⟩,a_14⟩,l⟩ with
    | false=>rfl
    | true =>
     have hr:=JZ h2
     simp only at hr
     have hn:=k6 hr.1
     simp only at hn
     rw[he]at hr
     simp at hr
     omega
   subst he
   have rn:rows ([]:List Int)=[]:=rfl
   rcases hx.Lx with ⟨rfl,_⟩ | ⟨c,rfl⟩
   ·have h2':=h2 (y:=aNil) (.inl ⟨rfl,rfl⟩)
    clear h2
    refine az (fn:=Tryz.f231) (c:=mG) rfl (by kernel_rfl) (by kernel_rfl) (by kernel_rfl) (by kernel_rfl) ?_;refine nF _ _ _ fun g=>?_
    by_cases c2:a_1=1
    ·subst c2
     simp[af,ah,ad,ae,ab, *,kP]
    ·simp[af,ah,ad,ae,ab, *,kP]
   ·have h2':=h2 (y := .isl 1 (rows []) (some 0)) (.inr ⟨some 0,rfl,by simp[rows]⟩)
    have h3':limf env 173 [.isl 1 [] c]=some (.fsl 1 [] (some 0)):=h3
    clear h2 h3
    rw[rn]at h1 h2' ⊢
    refine az (fn:=Tryz.f231) (c:=mG) rfl (by kernel_rfl) (by kernel_rfl) (by kernel_rfl) (by kernel_rfl) ?_;refine nF _ _ _ fun g=>?_
    by_cases c2:a_1=1
    ·subst c2
     simp[af,ah,ad,ae,ab, *,kP]
    ·simp[af,ah,ad,ae,ab, *,kP]
  ·have hr:rows l≠[]:=by simpa using he
   obtain⟨c,rfl,hc⟩:=hx.islN hr
   rw[mF 1 c hr]at h3
   have h2':=h2 (Sl.mk 1 (rows l))
   clear h2
   have fl1:=G0 l
   by_cases c2:a_1=1
   ·subst c2
    cases c3:runB ⟨⟨⟨⟨a_6,a_7,a_8⟩,a_9⟩,a_10⟩,⟨⟨a_11,a_12,a_13⟩,a_14⟩,l⟩ with
    | false =>
     have e:ofE ⟨1,⟨a_2,a_3,a_4⟩,a_5,⟨⟨⟨a_6,a_7,a_8⟩,a_9⟩,a_10⟩,⟨⟨a_11,a_12,a_13⟩,a_14⟩,⟨a_15,a_16⟩,l⟩=2:=by simp[ofE,c1,c3]
     refine az (fn:=Tryz.f231) (c:=mG) rfl (by kernel_rfl) (by kernel_rfl) (by kernel_rfl) (by kernel_rfl) ?_;refine nF _ _ _ fun g=>?_
     simp[af,ah,ad,ae,ab, *,kP,hx.r]
    | true =>
     have e:ofE ⟨1,⟨a_2,a_3,a_4⟩,a_5,⟨⟨⟨a_6,a_7,a_8⟩,a_9⟩,a_10⟩,⟨⟨a_11,a_12,a_13⟩,a_14⟩,⟨a_15,a_16⟩,l⟩=0:=by simp[ofE,c1,c3]
     refine az (fn:=Tryz.f231) (c:=mG) rfl (by kernel_rfl) (by kernel_rfl) (by kernel_rfl) (by kernel_rfl) ?_;refine nF _ _ _ fun g=>?_
     simp[af,ah,ad,ae,ab, *,kP,hx.r]
   ·have e:ofE (⟨a_1,⟨a_2,a_3,a_4⟩,a_5,⟨⟨⟨a_6,a_7,a_8⟩,a_9⟩,a_10⟩,⟨⟨a_11,a_12,a_13⟩,a_14⟩,⟨a_15,a_16⟩,l⟩:Opn)=2:=by simp[ofE,c1,c2]
    refine az (fn:=Tryz.f231) (c:=mG) rfl (by kernel_rfl) (by kernel_rfl) (by kernel_rfl) (by kernel_rfl) ?_;refine nF _ _ _ fun g=>?_
    simp[af,ah,ad,ae,ab, *,kP,hx.r]
end Go.Proofs.YtmkmimgokagimaaGreat
namespace Go.Proofs.YtmkmimgokagimaaGreat
open Go.Ab
attribute [local simp] bn aV aF bj bh keep thr bD aX bc dx dw cN bE aD ct List.take_of_length_le
theorem GD{g:Get}{r rm:Ref}{ents:List (Idd × AV)}(hr:g rm=some (ba (cT iddK ents))):ay env.P false g r .len #[264] [.mp rm]=some (aI ents.length,[]):=by
 have ht:(tmap env.P 264).isSome=true:=by kernel_rfl
 obtain⟨p,hp⟩:=Option.isSome_iff_exists.1 ht
 have e:ay env.P false g r .len #[264] [.mp rm]=pv env.P g (some 264) rm:=rfl
 rw[e]
 unfold pv
 rw[nW hr,Option.bind_some,hp]
 simp[cT]
def fB(ents:List (Idd × AV))(o:Opn):Int :=
 if (!jN o.a && !xn ents o o.a)=true then 6 else if ofE o≠0∨(gp o.s).any (nN ents)=true then 2 else if 8192<(ents.length:Int)+o.s.many then 4 else 0
def vG(ents:List (Idd × AV))(o:Opn):Int:=if tD ents o=false then 6 else if (decide (o.s.f.h.lv=o.h.lv)&&decide (o.s.f.h.cats=o.h.cats))=false then 2 else 0
def AL(ops:List (Opn × AV))(ents:List (Idd × AV))(o:Opn):Int:=if tD ents o=false then 6 else if qQ (opsOf ops)=0∧uO (opsOf ops) o=true then 0 else 2
def A5(ops:List (Opn × AV))(ents:List (Idd × AV))(o:Opn):Int:=if o.kind=1 then fB ents o else if o.kind=2 then vG ents o else AL ops ents o
def docE(ops:List (Opn × AV))(ents:List (Idd × AV))(o:Opn):Int:=if A5 ops ents o=0∧2048≤ops.length then 4 else A5 ops ents o
section
variable(dep:Nat){H:Heap}(hF:Fr H){rh:Ref}{ops:List (Opn × AV)}{ents:List (Idd × AV)}(hh:HistAt H rh ops ents)(hb:oN ents)
include hF hh hb
theorem FY(a_1:UInt8)(a_2:UInt8)(a_3:UInt32)(a_4:UInt8)(a_5:Int)(a_6:UInt8)(a_7:UInt32)(a_8:UInt8)(a_9:Int)(a_10:Int)(a_11:UInt8)(a_12:UInt32)(a_13:UInt8)(a_14:Int)(a_15:UInt8)(a_16:UInt32){x:AV}{al:List Int}(hx:Sl 1 (rows al) x)(hs:ke ⟨⟨⟨a_6,a_7,a_8⟩,a_9⟩,a_10⟩=true) :
 ∃H',limt env dep (.fn 219) [.ptr rh 0 0,.agg [a8 a_1,a8 a_2,a32 a_3,a8 a_4,aI a_5,a8 a_6,a32 a_7,a8 a_8,aI a_9,aI a_10,a8 a_11,a32 a_12,a8 a_13,aI a_14,a8 a_15,a32 a_16,x]] H=some (aI (vG ents (⟨a_1,⟨a_2,a_3,a_4⟩,a_5,⟨⟨⟨a_6,a_7,a_8⟩,a_9⟩,a_10⟩,⟨⟨a_11,a_12,a_13⟩,a_14⟩,⟨a_15,a_16⟩,al⟩:Opn)),H')∧Grow H H':=by
 refine dR (fn:=Tryz.f219) (c:=fl) (by kernel_rfl) (by kernel_rfl) (by kernel_rfl) (by kernel_rfl) (by kernel_rfl) ?_
 refine jv _ _ _ _ _ fun g=>?_
 have hg1 : ∀b1:Blk,Grow H ((⟨dep+1,3,H.gen (dep+1) 3,0⟩,some b1) :: H):=fun b1=>Grow.cons hF _ _ _
 have hA:=KC (dep+1) (hg1 ⟨17,[.agg [a8 a_1,a8 a_2,a32 a_3,a8 a_4,aI a_5,a8 a_6,a32 a_7,a8 a_8,aI a_9,aI a_10,a8 a_11,a32 a_12,a8 a_13,aI a_14,a8 a_15,a32 a_16,x]],false,false⟩).fr (hh.grow (hg1 _)) hb a_1 a_2 a_3 a_4 a_5 a_6 a_7 a_8 a_9 a_10 a_11 a_12 a_13 a_14 a_15 a_16 hx hs
 simp[af,ah,ad,ae,ab, *,fq,hx.r]
 refine kY (by kernel_rfl) hA fun H1 hG=>?_
 have hfin:=(hg1 _).trans hG
 have hbx:=hG.old ⟨dep+1,3,H.gen (dep+1) 3,0⟩ _ (by simp;rfl)
 unfold vG
 cases tD ents (⟨a_1,⟨a_2,a_3,a_4⟩,a_5,⟨⟨⟨a_6,a_7,a_8⟩,a_9⟩,a_10⟩,⟨⟨a_11,a_12,a_13⟩,a_14⟩,⟨a_15,a_16⟩,al⟩:Opn) with
 | false=>simp[hfin]
 | true =>
  cases hd:(decide (a_6=a_2)&&decide (a_7=a_3)) with
  | false=>simp[hbx,hfin,hx.r,eqA,eqFs,hd]
  | true=>simp[hbx,hfin,hx.r,eqA,eqFs,hd]
theorem raise_at(hall : ∀p∈ops,okO p)(hl:ops.length<100000)(a_1:UInt8)(a_2:UInt8)(a_3:UInt32)(a_4:UInt8)(a_5:Int)(a_6:UInt8)(a_7:UInt32)(a_8:UInt8)(a_9:Int)(a_10:Int)(a_11:UInt8)(a_12:UInt32)(a_13:UInt8)(a_14:Int)(a_15:UInt8)(a_16:UInt32){x:AV}{al:List Int}(hx:Sl 1 (rows al) x)(hal:al.length<2000000)(ho:opB (⟨a_1,⟨a_2,a_3,a_4⟩,a_5,⟨⟨⟨a_6,a_7,a_8⟩,a_9⟩,a_10⟩,⟨⟨a_11,a_12,a_13⟩,a_14⟩,⟨a_15,a_16⟩,al⟩:Opn)=true) :
 ∃H',limt env dep (.fn 220) [.ptr rh 0 0,.agg [a8 a_1,a8 a_2,a32 a_3,a8 a_4,aI a_5,a8 a_6,a32 a_7,a8 a_8,aI a_9,aI a_10,a8 a_11,a32 a_12,a8 a_13,aI a_14,a8 a_15,a32 a_16,x]] H=some (aI (AL ops ents (⟨a_1,⟨a_2,a_3,a_4⟩,a_5,⟨⟨⟨a_6,a_7,a_8⟩,a_9⟩,a_10⟩,⟨⟨a_11,a_12,a_13⟩,a_14⟩,⟨a_15,a_16⟩,al⟩:Opn)),H')∧Grow H H':=by
 have hs:=qp ho
 simp only at hs
 refine dR (fn:=Tryz.f220) (c:=fw) (by kernel_rfl) (by kernel_rfl) (by kernel_rfl) (by kernel_rfl) (by kernel_rfl) ?_
 refine jO _ _ _ _ _ fun g=>?_
 have hg1 : ∀b1:Blk,Grow H ((⟨dep+1,3,H.gen (dep+1) 3,0⟩,some b1) :: H):=fun b1=>Grow.cons hF _ _ _
 have hA:=KC (dep+1) (hg1 ⟨17,[.agg [a8 a_1,a8 a_2,a32 a_3,a8 a_4,aI a_5,a8 a_6,a32 a_7,a8 a_8,aI a_9,aI a_10,a8 a_11,a32 a_12,a8 a_13,aI a_14,a8 a_15,a32 a_16,x]],false,false⟩).fr (hh.grow (hg1 _)) hb a_1 a_2 a_3 a_4 a_5 a_6 a_7 a_8 a_9 a_10 a_11 a_12 a_13 a_14 a_15 a_16 hx hs
 simp[af,ah,ad,ae,ab, *,fy,hx.r]
 refine kY (by kernel_rfl) hA fun H1 hG=>?_
 have hfin:=(hg1 _).trans hG
 have hbx:=hG.old ⟨dep+1,3,H.gen (dep+1) 3,0⟩ _ (by simp;rfl)
 obtain⟨xo,vo,rm,h1,h2,h3⟩:=(hh.grow hfin).box
 have hso:=h2.r
 have hC:=Iv h2.sl hall hl a_1 a_2 a_3 a_4 a_5 a_6 a_7 a_8 a_9 a_10 a_11 a_12 a_13 a_14 a_15 a_16 hx hal
 rw[if_pos ho]at hC
 unfold AL
 cases tD ents (⟨a_1,⟨a_2,a_3,a_4⟩,a_5,⟨⟨⟨a_6,a_7,a_8⟩,a_9⟩,a_10⟩,⟨⟨a_11,a_12,a_13⟩,a_14⟩,⟨a_15,a_16⟩,al⟩:Opn) with
 | false=>simp[hfin]
 | true =>
  by_cases hc:qQ (opsOf ops)=0
  ·rw[if_pos hc]at hC
   cases hf:uO (opsOf ops) (⟨a_1,⟨a_2,a_3,a_4⟩,a_5,⟨⟨⟨a_6,a_7,a_8⟩,a_9⟩,a_10⟩,⟨⟨a_11,a_12,a_13⟩,a_14⟩,⟨a_15,a_16⟩,al⟩:Opn) with
   | false =>
    rw[hf]at hC
    simp[hbx,hfin,h1,hso,hx.r,hC]
   | true =>
    rw[hf]at hC
    simp[hbx,hfin,h1,hso,hx.r,hC,hc]
  ·rw[if_neg hc]at hC
   simp[hbx,hfin,h1,hso,hx.r,hC,hc]
end
end Go.Proofs.YtmkmimgokagimaaGreat
