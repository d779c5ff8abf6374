/-
  What a history tells of an operation: names, and each kind's error. No statement of a seat is proved here.
-/
import Derived.Test.YtmkmimgokagimaaGreatMLeDoc2
import Derived.Test.YtmkmimgokagimaaGreatMOpFns
set_option linter.unusedVariables false
set_option linter.unusedSimpArgs false
set_option linter.unusedSectionVars false
set_option linter.unnecessarySimpa false
set_option maxRecDepth 100000
namespace Go.Proofs.YtmkmimgokagimaaGreat
open Go.Ab
attribute [local simp] bj aL aF bg bf keep thr bx aT bc da cZ cJ bD aD bM List.take_of_length_le
def gy(s:Spn):List Idd:=(List.range s.many.toNat).map fun k=>Jv s.f (k:Nat)
theorem Hg(a_1:UInt8)(a_2:UInt32)(a_3:UInt8)(a_4:Int)(a_5:Int)(hs:kR (⟨⟨⟨a_1,a_2,a_3⟩,a_4⟩,a_5⟩:Spn)=true){Q:AV→Heap→Prop} : ∀(d k:Nat)(i:Int)(x2:AV)(H:Heap),k+d=a_5.toNat→i=k→Fr H→H.get ⟨0,1,0,0⟩=some ⟨5,[.agg [a8 a_1,a32 a_2,a8 a_3,aI a_4,aI a_5]],false,false⟩→FI [20] 4 (mV ((List.range k).map fun(k:Nat)=>Jv ⟨⟨a_1,a_2,a_3⟩,a_4⟩ k)) H x2 →
 (∀y H',FI [20] 4 (mV (gy (⟨⟨⟨a_1,a_2,a_3⟩,a_4⟩,a_5⟩:Spn))) H' y→Q y H') →
 GoL env Tryz.f213 0 jK [(8,aI i),(2,x2),(1,.ptr ⟨0,1,0,0⟩ 0 0),(7,aI a_5)] H Q:=by
 have hn:=lX hs
 simp only at hn
 intro d
 induction d with
 | zero =>
  rintro k i x2 H hk rfl hF hb hO hQ
  have hfin:=hQ x2 H (by unfold gy;simp only;rw[show a_5.toNat=k by omega];exact hO)
  have hlt : ¬(k:Int)<a_5:=by omega
  refine ti _ _ _ _ _ _ fun g=>?_
  clear hQ hO
  simp[af,ah,ad,ae,ab, *,mr]
  all_goals exact hfin
 | succ d ih =>
  rintro k i x2 H hk rfl hF hb hO hQ
  have e3:=IntWalk.i64_in ((k:Int)+1) (by omega)
  have hlt:(k:Int)<a_5:=by omega
  have eA:atE (⟨⟨⟨a_1,a_2,a_3⟩,a_4⟩,a_5⟩:Spn) (k:Int)=0:=by
   unfold atE
   rw[if_pos hs,if_neg]
   simp only
   omega
  have hA:=Ws a_1 a_2 a_3 a_4 a_5 (k:Int)
  rw[if_pos eA]at hA
  have l1:(H.get ⟨0,1,0,0⟩).isSome=true:=by rw[hb];rfl
  have hst : ∀(g:Nat)(m:Nat)(H1:Heap),m=k+1→Fr H1→H1.get ⟨0,1,0,0⟩=some ⟨5,[.agg [a8 a_1,a32 a_2,a8 a_3,aI a_4,aI a_5]],false,false⟩→H1.get ⟨0,20,g,0⟩=some ⟨4,mV ((List.range k).map fun(k:Nat)=>Jv ⟨⟨a_1,a_2,a_3⟩,a_4⟩ k)++[.agg [a8 a_1,a32 a_2,a8 a_3,aI (a_4+k)]],true,false⟩ →
   GoL env Tryz.f213 0 jK [(8,aI ((k:Int)+1)),(2,.osl ⟨0,20,g,0⟩ 0 m none),(1,.ptr ⟨0,1,0,0⟩ 0 0),(7,aI a_5)] H1 Q:=by
   intro g m H1 hm f1 f2 f3
   subst hm
   refine ih (k+1) ((k:Int)+1) _ H1 (by omega) (by simp) f1 f2 (.inr ⟨20,g,by simp,by simp,?_⟩) hQ
   rw[f3]
   simp[mV,List.range_succ,iddK,Jv]
  clear ih hQ
  refine ti _ _ _ _ _ _ fun g=>?_
  generalize he:mV ((List.range k).map fun(k:Nat)=>Jv ⟨⟨a_1,a_2,a_3⟩,a_4⟩ k)=es at *
  have hel:es.length=k:=by rw[←he];simp
  clear he eA
  rcases hO with ⟨rfl,rfl⟩ | ⟨t,gg,ht,rfl,hr⟩
  ·have hst':=fun H1=>hst (H.gen 0 20) 1 H1 (by simp at hel;omega)
   clear hst hel
   simp[af,ah,ad,ae,ab, *,mr]
   refine hst' _ ?_ ?_ ?_
   ·exact by simp(maxDischargeDepth:=12) [Heap.an,au,ak,Fr.nil,az,af,ah,ad,ae,ar,ao,ab, *]
   ·exact by simp(maxDischargeDepth:=12) [Heap.an,au,ak,Fr.nil,az,af,ah,ad,ae,ar,ao,ab, *]
   ·exact by simp(maxDischargeDepth:=12) [Heap.an,au,ak,Fr.nil,az,af,ah,ad,ae,ar,ao,ab, *]
  ·rw[List.mem_singleton]at ht
   subst ht
   rw[hel]
   have hst':=hst (H.gen 0 20) (k+1)
   clear hst
   have l6:(H.get ⟨0,20,gg,0⟩).isSome=true:=by rw[hr];rfl
   have f4:oF 4 24 k true none (some ⟨4,es,true,false⟩) (some [.agg [a8 a_1,a32 a_2,a8 a_3,aI (a_4+k)]]):=by
    simp[hel];omega
   simp[af,ah,ad,ae,ab, *,mr]
   refine hst' _ rfl ?_ ?_ ?_
   ·exact by simp(maxDischargeDepth:=12) [Heap.an,au,ak,Fr.nil,az,af,ah,ad,ae,ar,ao,ab, *]
   ·exact by simp(maxDischargeDepth:=12) [Heap.an,au,ak,Fr.nil,az,af,ah,ad,ae,ar,ao,ab, *]
   ·exact by simp(maxDischargeDepth:=12) [Heap.an,au,ak,Fr.nil,az,af,ah,ad,ae,ar,ao,ab, *]
theorem Eu(a_1:UInt8)(a_2:UInt32)(a_3:UInt8)(a_4:Int)(a_5:Int)(hs:kR (⟨⟨⟨a_1,a_2,a_3⟩,a_4⟩,a_5⟩:Spn)=true):limf env 213 [.agg [a8 a_1,a32 a_2,a8 a_3,aI a_4,aI a_5]]=some (.isl 4 (mV (gy (⟨⟨⟨a_1,a_2,a_3⟩,a_4⟩,a_5⟩:Spn))) none):=by
 have hn:=lX hs
 simp only at hn
 have hne:mV (gy (⟨⟨⟨a_1,a_2,a_3⟩,a_4⟩,a_5⟩:Spn))≠[]:=by
  intro e
  have:=congrArg List.length e
  simp[gy]at this
  omega
 refine aw (fn:=Tryz.f213) (c:=rS) rfl (by kernel_rfl) (by kernel_rfl) (by kernel_rfl) (by kernel_rfl) ?_;refine Dg _ _ _ fun g=>?_
 have hfin:=fun H h1 h2=>Hg a_1 a_2 a_3 a_4 a_5 hs (Q:=fun y H'=>view H'.get 8 y=some (.isl 4 (mV (gy (⟨⟨⟨a_1,a_2,a_3⟩,a_4⟩,a_5⟩:Spn))) none)) a_5.toNat 0 0 aNil H (by omega) rfl h1 h2 (.inl ⟨rfl,by simp[mV]⟩) (fun y H' h=>by
  rcases h with ⟨_,h⟩ | ⟨t,g,_,rfl,hr⟩
  ·exact absurd h hne
  ·rw[C7 hr rfl])
 simp[af,ah,ad,ae,ab, *,xM]
 exact hfin _ (by simp(maxDischargeDepth:=12) [Heap.an,au,ak,Fr.nil,az,af,ah,ad,ae,ar,ao,ab, *]) rfl
theorem Gg(s:Spn):Sl 4 (mV (gy s)) (.isl 4 (mV (gy s)) none):=Sl.mk _ _
theorem zn{s:Spn}(h:kR s=true):(gy s).length<100000:=by
 have hn:=lX h
 simp[gy]
 omega
def wQ(ents:List (Idd × AV))(o:Opn):Bool := !(gy o.s).any fun i => !AL ents o i
section
variable(dep:Nat){H:Heap}(hF:Fr H){rh:Ref}{ops:List (Opn × AV)}{ents:List (Idd × AV)}(hh:HistAt H rh ops ents)(hb:qx ents)
include hF hh hb
theorem NT(a_1:UInt8)(a_2:UInt8)(a_3:UInt32)(a_4:UInt8)(a_5:Int)(a_6:UInt8)(a_7:UInt32)(a_8:UInt8)(a_9:Int)(a_10:Int)(a_11:UInt8)(a_12:UInt32)(a_13:UInt8)(a_14:Int)(a_15:UInt8)(a_16:UInt32){x:AV}{al:List Int}(hx:Sl 1 (rows al) x)(hs:kR ⟨⟨⟨a_6,a_7,a_8⟩,a_9⟩,a_10⟩=true) :
 ∃H',limt env dep (.fn 234) [.ptr rh 0 0,.agg [a8 a_1,a8 a_2,a32 a_3,a8 a_4,aI a_5,a8 a_6,a32 a_7,a8 a_8,aI a_9,aI a_10,a8 a_11,a32 a_12,a8 a_13,aI a_14,a8 a_15,a32 a_16,x]] H=some (aB (wQ ents (⟨a_1,⟨a_2,a_3,a_4⟩,a_5,⟨⟨⟨a_6,a_7,a_8⟩,a_9⟩,a_10⟩,⟨⟨a_11,a_12,a_13⟩,a_14⟩,⟨a_15,a_16⟩,al⟩:Opn)),H')∧Grow H H':=by
 refine dt (fn:=Tryz.f234) (c:=gk) (by kernel_rfl) (by kernel_rfl) (by kernel_rfl) (by kernel_rfl) (by kernel_rfl) ?_
 refine lP _ _ _ _ _ fun g=>?_
 have hN:=Eu a_6 a_7 a_8 a_9 a_10 hs
 have hg1 : ∀b1 b2:Blk,Grow H ((⟨dep+1,3,H.gen (dep+1) 3,0⟩,some b2) :: (⟨dep+1,2,H.gen (dep+1) 2,0⟩,some b1) :: H):=fun b1 b2=>⟨by simp(maxDischargeDepth:=12) [Heap.an,au,ak,Fr.nil,az,af,ah,ad,ae,ar,ao,ab, *],fun q c hq=>by
  have lq:(H.get q).isSome=true:=by rw[hq];rfl
  simp[af hF lq,hq]⟩
 have hc : ∃H',limt env (dep+1) (.fn 232) ([]++[.isl 4 (mV (gy ⟨⟨⟨a_6,a_7,a_8⟩,a_9⟩,a_10⟩)) none,.fn (.func 242) [] [.ptr ⟨dep+1,2,H.gen (dep+1) 2,0⟩ 0 0,.ptr ⟨dep+1,3,H.gen (dep+1) 3,0⟩ 0 0]]++[])
  ((⟨dep+1,3,H.gen (dep+1) 3,0⟩,some ⟨17,[.agg [a8 a_1,a8 a_2,a32 a_3,a8 a_4,aI a_5,a8 a_6,a32 a_7,a8 a_8,aI a_9,aI a_10,a8 a_11,a32 a_12,a8 a_13,aI a_14,a8 a_15,a32 a_16,x]],false,false⟩) :: (⟨dep+1,2,H.gen (dep+1) 2,0⟩,some ⟨1,[.ptr rh 0 0],false,false⟩) :: H)=some (aB ((gy ⟨⟨⟨a_6,a_7,a_8⟩,a_9⟩,a_10⟩).any fun i => !AL ents (⟨a_1,⟨a_2,a_3,a_4⟩,a_5,⟨⟨⟨a_6,a_7,a_8⟩,a_9⟩,a_10⟩,⟨⟨a_11,a_12,a_13⟩,a_14⟩,⟨a_15,a_16⟩,al⟩:Opn) i),H')∧Grow _ H' :=
  Ai (dep+1) (F:=242) (by kernel_rfl) (Gg _) (zn hs) (p:=fun i => !AL ents (⟨a_1,⟨a_2,a_3,a_4⟩,a_5,⟨⟨⟨a_6,a_7,a_8⟩,a_9⟩,a_10⟩,⟨⟨a_11,a_12,a_13⟩,a_14⟩,⟨a_15,a_16⟩,al⟩:Opn) i) (hg1 _ _).fr (fun i H' hG=>by
   have:=MB (dep+3) hG.fr ((hh.grow (hg1 _ _)).grow hG) hb a_1 a_2 a_3 a_4 a_5 a_6 a_7 a_8 a_9 a_10 a_11 a_12 a_13 a_14 a_15 a_16 i.h.lv i.h.cats i.h.num i.n hx (q:=⟨dep+1,2,H.gen (dep+1) 2,0⟩) (p:=⟨dep+1,3,H.gen (dep+1) 3,0⟩) (hG.old _ _ (by simp)) (hG.old _ _ (by simp))
   exact this)
 simp[af,ah,ad,ae,ab, *,gl,hx.r]
 refine jm (by kernel_rfl) hc fun H1 hG=>?_
 have hfin:=(hg1 _ _).trans hG
 simp[hfin,wQ]
end
end Go.Proofs.YtmkmimgokagimaaGreat
namespace Go.Proofs.YtmkmimgokagimaaGreat
open Go.Ab
attribute [local simp] bj aL aF bg bf keep thr bx aT bc da cZ cJ bD aD bM List.take_of_length_le
@[simp] theorem J4(l:List Int)(n:Nat):(rows l).all (flat (n+1))=true:=by
 simp[rows,List.all_eq_true,aR]
theorem GU(a_1:UInt8)(a_2:UInt32)(a_3:UInt8)(a_4:Int)(a_5:Int)(a_6:UInt8)(a_7:UInt32)(a_8:UInt8)(a_9:Int){x:AV}{l:List Int}(hx:Sl 1 (rows l) x)(hl:l.length<1000000):limf env 240 [.agg [a8 a_1,a32 a_2,a8 a_3,aI a_4,aI a_5,a8 a_6,a32 a_7,a8 a_8,aI a_9,x]]=some (aI (bad (runB (⟨⟨⟨⟨a_1,a_2,a_3⟩,a_4⟩,a_5⟩,⟨⟨a_6,a_7,a_8⟩,a_9⟩,l⟩:Rn)))):=by
 refine aw (fn:=Tryz.f240) (c:=xE) rfl (by kernel_rfl) (by kernel_rfl) (by kernel_rfl) (by kernel_rfl) ?_;refine Db _ _ _ fun g=>?_
 have h1:=za hx (by omega)
 have h2:=Du l
 have hr:((⟨⟨a_6,a_7,a_8⟩,a_9⟩:Idd)=C2)=((decide (a_6=0)&&decide (a_7=0)&&decide (a_8=0)&&decide (a_9=0))=true):=by simp[C2,and_assoc]
 unfold runB
 simp only[hr]
 cases hz:(decide (a_6=0)&&decide (a_7=0)&&decide (a_8=0)&&decide (a_9=0)) with
 | true =>
  simp[af,ah,ad,ae,ab, *,sd,hx.r,eqA,eqFs]
  repeat' ((first | refine nH (fun h=>?_) (fun h=>?_) | refine lu (fun h=>?_) (fun h=>?_) | refine lx (fun h=>?_) (fun h=>?_) | refine lg (fun h=>?_) (fun h=>?_) | refine lj (fun h=>?_) (fun h=>?_))<;>(try simp only[decide_eq_true_eq,decide_eq_false_iff_not,Bool.not_eq_true',Bool.not_eq_false',Bool.and_eq_true,Bool.or_eq_true]at h)<;>(try simp[af,ah,ad,ae,ab, *,hx.r]))
 | false =>
  simp[af,ah,ad,ae,ab, *,sd,hx.r,eqA,eqFs]
  repeat' ((first | refine nH (fun h=>?_) (fun h=>?_) | refine lu (fun h=>?_) (fun h=>?_) | refine lx (fun h=>?_) (fun h=>?_) | refine lg (fun h=>?_) (fun h=>?_) | refine lj (fun h=>?_) (fun h=>?_))<;>(try simp only[decide_eq_true_eq,decide_eq_false_iff_not,Bool.not_eq_true',Bool.not_eq_false',Bool.and_eq_true,Bool.or_eq_true]at h)<;>(try simp[af,ah,ad,ae,ab, *,hx.r]))
theorem MX{r:Rn}(h:runB r=true):kR r.s=true∧(r.l.length:Int)=r.s.many:=by
 simp[runB]at h;exact⟨h.1,h.2.2.1⟩
def ofE(o:Opn):Int:=if opB o then (if o.kind=1∧runB ⟨o.s,o.a,o.l⟩=true then 0 else 2) else 8
theorem On(a_1:UInt8)(a_2:UInt8)(a_3:UInt32)(a_4:UInt8)(a_5:Int)(a_6:UInt8)(a_7:UInt32)(a_8:UInt8)(a_9:Int)(a_10:Int)(a_11:UInt8)(a_12:UInt32)(a_13:UInt8)(a_14:Int)(a_15:UInt8)(a_16:UInt32){x:AV}{l:List Int}(hx:Sl 1 (rows l) x)(hl:l.length<1000000):limf env 231 [.agg [a8 a_1,a8 a_2,a32 a_3,a8 a_4,aI a_5,a8 a_6,a32 a_7,a8 a_8,aI a_9,aI a_10,a8 a_11,a32 a_12,a8 a_13,aI a_14,a8 a_15,a32 a_16,x]] =
 some (if ofE (⟨a_1,⟨a_2,a_3,a_4⟩,a_5,⟨⟨⟨a_6,a_7,a_8⟩,a_9⟩,a_10⟩,⟨⟨a_11,a_12,a_13⟩,a_14⟩,⟨a_15,a_16⟩,l⟩:Opn)=0 then .tup [.agg [a8 a_6,a32 a_7,a8 a_8,aI a_9,aI a_10,a8 a_11,a32 a_12,a8 a_13,aI a_14,.isl 1 (rows l) none],aI 0]
  else .tup [.agg [a8 0,a32 0,a8 0,aI 0,aI 0,a8 0,a32 0,a8 0,aI 0,aNil],aI (ofE (⟨a_1,⟨a_2,a_3,a_4⟩,a_5,⟨⟨⟨a_6,a_7,a_8⟩,a_9⟩,a_10⟩,⟨⟨a_11,a_12,a_13⟩,a_14⟩,⟨a_15,a_16⟩,l⟩:Opn))]):=by
 have h1:=iN a_1 a_2 a_3 a_4 a_5 a_6 a_7 a_8 a_9 a_10 a_11 a_12 a_13 a_14 a_15 a_16 hx (by omega)
 have h3:=Ds hx (by omega) (by omega)
 cases c1:opB (⟨a_1,⟨a_2,a_3,a_4⟩,a_5,⟨⟨⟨a_6,a_7,a_8⟩,a_9⟩,a_10⟩,⟨⟨a_11,a_12,a_13⟩,a_14⟩,⟨a_15,a_16⟩,l⟩:Opn) with
 | false =>
  have e:ofE (⟨a_1,⟨a_2,a_3,a_4⟩,a_5,⟨⟨⟨a_6,a_7,a_8⟩,a_9⟩,a_10⟩,⟨⟨a_11,a_12,a_13⟩,a_14⟩,⟨a_15,a_16⟩,l⟩:Opn)=8:=by simp[ofE,c1]
  refine aw (fn:=Tryz.f231) (c:=nx) rfl (by kernel_rfl) (by kernel_rfl) (by kernel_rfl) (by kernel_rfl) ?_;refine oO _ _ _ fun g=>?_
  simp[af,ah,ad,ae,ab, *,lK,hx.r]
 | true =>
  have h2:=fun {y:AV} (hy:Sl 1 (rows l) y)=>GU a_6 a_7 a_8 a_9 a_10 a_11 a_12 a_13 a_14 hy hl
  by_cases he:l=[]
  ·have e:ofE (⟨a_1,⟨a_2,a_3,a_4⟩,a_5,⟨⟨⟨a_6,a_7,a_8⟩,a_9⟩,a_10⟩,⟨⟨a_11,a_12,a_13⟩,a_14⟩,⟨a_15,a_16⟩,l⟩:Opn)=2:=by
    simp only[ofE,c1,if_true]
    rw[if_neg]
    rintro⟨_,h⟩
    have hr:=MX h
    simp only at hr
    have hn:=lX hr.1
    simp only at hn
    rw[he]at hr
    simp at hr
    omega
   have hrb:runB ⟨⟨⟨⟨a_6,a_7,a_8⟩,a_9⟩,a_10⟩,⟨⟨a_11,a_12,a_13⟩,a_14⟩,l⟩=false:=by
    cases h2:runB ⟨⟨⟨⟨a_6,a_7,a_8⟩,a_9⟩,a_10⟩,⟨⟨a_11,a_12,a_13⟩,a_14⟩,l⟩ with
    | false=>rfl
    | true =>
     have hr:=MX h2
     simp only at hr
     have hn:=lX hr.1
     simp only at hn
     rw[he]at hr
     simp at hr
     omega
   subst he
   have rn:rows ([]:List Int)=[]:=rfl
   rcases hx.OS with ⟨rfl,_⟩ | ⟨c,rfl⟩
   ·have h2':=h2 (y:=aNil) (.inl ⟨rfl,rfl⟩)
    clear h2
    refine aw (fn:=Tryz.f231) (c:=nx) rfl (by kernel_rfl) (by kernel_rfl) (by kernel_rfl) (by kernel_rfl) ?_;refine oO _ _ _ fun g=>?_
    by_cases c2:a_1=1
    ·subst c2
     simp[af,ah,ad,ae,ab, *,lK]
    ·simp[af,ah,ad,ae,ab, *,lK]
   ·have h2':=h2 (y := .isl 1 (rows []) (some 0)) (.inr ⟨some 0,rfl,by simp[rows]⟩)
    have h3':limf env 173 [.isl 1 [] c]=some (.fsl 1 [] (some 0)):=h3
    clear h2 h3
    rw[rn]at h1 h2' ⊢
    refine aw (fn:=Tryz.f231) (c:=nx) rfl (by kernel_rfl) (by kernel_rfl) (by kernel_rfl) (by kernel_rfl) ?_;refine oO _ _ _ fun g=>?_
    by_cases c2:a_1=1
    ·subst c2
     simp[af,ah,ad,ae,ab, *,lK]
    ·simp[af,ah,ad,ae,ab, *,lK]
  ·have hr:rows l≠[]:=by simpa using he
   obtain⟨c,rfl,hc⟩:=hx.islN hr
   rw[nw 1 c hr]at h3
   have h2':=h2 (Sl.mk 1 (rows l))
   clear h2
   have fl1:=J4 l
   by_cases c2:a_1=1
   ·subst c2
    cases c3:runB ⟨⟨⟨⟨a_6,a_7,a_8⟩,a_9⟩,a_10⟩,⟨⟨a_11,a_12,a_13⟩,a_14⟩,l⟩ with
    | false =>
     have e:ofE ⟨1,⟨a_2,a_3,a_4⟩,a_5,⟨⟨⟨a_6,a_7,a_8⟩,a_9⟩,a_10⟩,⟨⟨a_11,a_12,a_13⟩,a_14⟩,⟨a_15,a_16⟩,l⟩=2:=by simp[ofE,c1,c3]
     refine aw (fn:=Tryz.f231) (c:=nx) rfl (by kernel_rfl) (by kernel_rfl) (by kernel_rfl) (by kernel_rfl) ?_;refine oO _ _ _ fun g=>?_
     simp[af,ah,ad,ae,ab, *,lK,hx.r]
    | true =>
     have e:ofE ⟨1,⟨a_2,a_3,a_4⟩,a_5,⟨⟨⟨a_6,a_7,a_8⟩,a_9⟩,a_10⟩,⟨⟨a_11,a_12,a_13⟩,a_14⟩,⟨a_15,a_16⟩,l⟩=0:=by simp[ofE,c1,c3]
     refine aw (fn:=Tryz.f231) (c:=nx) rfl (by kernel_rfl) (by kernel_rfl) (by kernel_rfl) (by kernel_rfl) ?_;refine oO _ _ _ fun g=>?_
     simp[af,ah,ad,ae,ab, *,lK,hx.r]
   ·have e:ofE (⟨a_1,⟨a_2,a_3,a_4⟩,a_5,⟨⟨⟨a_6,a_7,a_8⟩,a_9⟩,a_10⟩,⟨⟨a_11,a_12,a_13⟩,a_14⟩,⟨a_15,a_16⟩,l⟩:Opn)=2:=by simp[ofE,c1,c2]
    refine aw (fn:=Tryz.f231) (c:=nx) rfl (by kernel_rfl) (by kernel_rfl) (by kernel_rfl) (by kernel_rfl) ?_;refine oO _ _ _ fun g=>?_
    simp[af,ah,ad,ae,ab, *,lK,hx.r]
end Go.Proofs.YtmkmimgokagimaaGreat
namespace Go.Proofs.YtmkmimgokagimaaGreat
open Go.Ab
attribute [local simp] bj aL aF bg bf keep thr bx aT bc da cZ cJ bD aD bM List.take_of_length_le
theorem JJ{g:Get}{r rm:Ref}{ents:List (Idd × AV)}(hr:g rm=some (bm (cX iddK ents))):aA env.P false g r .len #[264] [.mp rm]=some (aI ents.length,[]):=by
 have ht:(tmap env.P 264).isSome=true:=by kernel_rfl
 obtain⟨p,hp⟩:=Option.isSome_iff_exists.1 ht
 have e:aA env.P false g r .len #[264] [.mp rm]=rp env.P g (some 264) rm:=rfl
 rw[e]
 unfold rp
 rw[o8 hr,Option.bind_some,hp]
 simp[cX]
def fp(ents:List (Idd × AV))(o:Opn):Int :=
 if (!kD o.a && !AL ents o o.a)=true then 6 else if ofE o≠0∨(gy o.s).any (oW ents)=true then 2 else if 8192<(ents.length:Int)+o.s.many then 4 else 0
def wm(ents:List (Idd × AV))(o:Opn):Int:=if wQ ents o=false then 6 else if (decide (o.s.f.h.lv=o.h.lv)&&decide (o.s.f.h.cats=o.h.cats))=false then 2 else 0
def BA(ops:List (Opn × AV))(ents:List (Idd × AV))(o:Opn):Int:=if wQ ents o=false then 6 else if tz (opsOf ops)=0∧yd (opsOf ops) o=true then 0 else 2
def zK(ops:List (Opn × AV))(ents:List (Idd × AV))(o:Opn):Int:=if o.kind=1 then fp ents o else if o.kind=2 then wm ents o else BA ops ents o
def docE(ops:List (Opn × AV))(ents:List (Idd × AV))(o:Opn):Int:=if zK ops ents o=0∧2048≤ops.length then 4 else zK ops ents o
section
variable(dep:Nat){H:Heap}(hF:Fr H){rh:Ref}{ops:List (Opn × AV)}{ents:List (Idd × AV)}(hh:HistAt H rh ops ents)(hb:qx ents)
include hF hh hb
theorem I2(a_1:UInt8)(a_2:UInt8)(a_3:UInt32)(a_4:UInt8)(a_5:Int)(a_6:UInt8)(a_7:UInt32)(a_8:UInt8)(a_9:Int)(a_10:Int)(a_11:UInt8)(a_12:UInt32)(a_13:UInt8)(a_14:Int)(a_15:UInt8)(a_16:UInt32){x:AV}{al:List Int}(hx:Sl 1 (rows al) x)(hs:kR ⟨⟨⟨a_6,a_7,a_8⟩,a_9⟩,a_10⟩=true) :
 ∃H',limt env dep (.fn 219) [.ptr rh 0 0,.agg [a8 a_1,a8 a_2,a32 a_3,a8 a_4,aI a_5,a8 a_6,a32 a_7,a8 a_8,aI a_9,aI a_10,a8 a_11,a32 a_12,a8 a_13,aI a_14,a8 a_15,a32 a_16,x]] H=some (aI (wm ents (⟨a_1,⟨a_2,a_3,a_4⟩,a_5,⟨⟨⟨a_6,a_7,a_8⟩,a_9⟩,a_10⟩,⟨⟨a_11,a_12,a_13⟩,a_14⟩,⟨a_15,a_16⟩,al⟩:Opn)),H')∧Grow H H':=by
 refine dt (fn:=Tryz.f219) (c:=fv) (by kernel_rfl) (by kernel_rfl) (by kernel_rfl) (by kernel_rfl) (by kernel_rfl) ?_
 refine jX _ _ _ _ _ fun g=>?_
 have hg1 : ∀b1:Blk,Grow H ((⟨dep+1,3,H.gen (dep+1) 3,0⟩,some b1) :: H):=fun b1=>Grow.cons hF _ _ _
 have hA:=NT (dep+1) (hg1 ⟨17,[.agg [a8 a_1,a8 a_2,a32 a_3,a8 a_4,aI a_5,a8 a_6,a32 a_7,a8 a_8,aI a_9,aI a_10,a8 a_11,a32 a_12,a8 a_13,aI a_14,a8 a_15,a32 a_16,x]],false,false⟩).fr (hh.grow (hg1 _)) hb a_1 a_2 a_3 a_4 a_5 a_6 a_7 a_8 a_9 a_10 a_11 a_12 a_13 a_14 a_15 a_16 hx hs
 simp[af,ah,ad,ae,ab, *,fy,hx.r]
 refine jm (by kernel_rfl) hA fun H1 hG=>?_
 have hfin:=(hg1 _).trans hG
 have hbx:=hG.old ⟨dep+1,3,H.gen (dep+1) 3,0⟩ _ (by simp;rfl)
 unfold wm
 cases wQ ents (⟨a_1,⟨a_2,a_3,a_4⟩,a_5,⟨⟨⟨a_6,a_7,a_8⟩,a_9⟩,a_10⟩,⟨⟨a_11,a_12,a_13⟩,a_14⟩,⟨a_15,a_16⟩,al⟩:Opn) with
 | false=>simp[hfin]
 | true =>
  cases hd:(decide (a_6=a_2)&&decide (a_7=a_3)) with
  | false=>simp[hbx,hfin,hx.r,eqA,eqFs,hd]
  | true=>simp[hbx,hfin,hx.r,eqA,eqFs,hd]
theorem raise_at(hall : ∀p∈ops,okO p)(hl:ops.length<100000)(a_1:UInt8)(a_2:UInt8)(a_3:UInt32)(a_4:UInt8)(a_5:Int)(a_6:UInt8)(a_7:UInt32)(a_8:UInt8)(a_9:Int)(a_10:Int)(a_11:UInt8)(a_12:UInt32)(a_13:UInt8)(a_14:Int)(a_15:UInt8)(a_16:UInt32){x:AV}{al:List Int}(hx:Sl 1 (rows al) x)(hal:al.length<2000000)(ho:opB (⟨a_1,⟨a_2,a_3,a_4⟩,a_5,⟨⟨⟨a_6,a_7,a_8⟩,a_9⟩,a_10⟩,⟨⟨a_11,a_12,a_13⟩,a_14⟩,⟨a_15,a_16⟩,al⟩:Opn)=true) :
 ∃H',limt env dep (.fn 220) [.ptr rh 0 0,.agg [a8 a_1,a8 a_2,a32 a_3,a8 a_4,aI a_5,a8 a_6,a32 a_7,a8 a_8,aI a_9,aI a_10,a8 a_11,a32 a_12,a8 a_13,aI a_14,a8 a_15,a32 a_16,x]] H=some (aI (BA ops ents (⟨a_1,⟨a_2,a_3,a_4⟩,a_5,⟨⟨⟨a_6,a_7,a_8⟩,a_9⟩,a_10⟩,⟨⟨a_11,a_12,a_13⟩,a_14⟩,⟨a_15,a_16⟩,al⟩:Opn)),H')∧Grow H H':=by
 have hs:=sQ ho
 simp only at hs
 refine dt (fn:=Tryz.f220) (c:=fE) (by kernel_rfl) (by kernel_rfl) (by kernel_rfl) (by kernel_rfl) (by kernel_rfl) ?_
 refine kE _ _ _ _ _ fun g=>?_
 have hg1 : ∀b1:Blk,Grow H ((⟨dep+1,3,H.gen (dep+1) 3,0⟩,some b1) :: H):=fun b1=>Grow.cons hF _ _ _
 have hA:=NT (dep+1) (hg1 ⟨17,[.agg [a8 a_1,a8 a_2,a32 a_3,a8 a_4,aI a_5,a8 a_6,a32 a_7,a8 a_8,aI a_9,aI a_10,a8 a_11,a32 a_12,a8 a_13,aI a_14,a8 a_15,a32 a_16,x]],false,false⟩).fr (hh.grow (hg1 _)) hb a_1 a_2 a_3 a_4 a_5 a_6 a_7 a_8 a_9 a_10 a_11 a_12 a_13 a_14 a_15 a_16 hx hs
 simp[af,ah,ad,ae,ab, *,fG,hx.r]
 refine jm (by kernel_rfl) hA fun H1 hG=>?_
 have hfin:=(hg1 _).trans hG
 have hbx:=hG.old ⟨dep+1,3,H.gen (dep+1) 3,0⟩ _ (by simp;rfl)
 obtain⟨xo,vo,rm,h1,h2,h3⟩:=(hh.grow hfin).box
 have hso:=h2.r
 have hC:=Lr h2.sl hall hl a_1 a_2 a_3 a_4 a_5 a_6 a_7 a_8 a_9 a_10 a_11 a_12 a_13 a_14 a_15 a_16 hx hal
 rw[if_pos ho]at hC
 unfold BA
 cases wQ ents (⟨a_1,⟨a_2,a_3,a_4⟩,a_5,⟨⟨⟨a_6,a_7,a_8⟩,a_9⟩,a_10⟩,⟨⟨a_11,a_12,a_13⟩,a_14⟩,⟨a_15,a_16⟩,al⟩:Opn) with
 | false=>simp[hfin]
 | true =>
  by_cases hc:tz (opsOf ops)=0
  ·rw[if_pos hc]at hC
   cases hf:yd (opsOf ops) (⟨a_1,⟨a_2,a_3,a_4⟩,a_5,⟨⟨⟨a_6,a_7,a_8⟩,a_9⟩,a_10⟩,⟨⟨a_11,a_12,a_13⟩,a_14⟩,⟨a_15,a_16⟩,al⟩:Opn) with
   | false =>
    rw[hf]at hC
    simp[hbx,hfin,h1,hso,hx.r,hC]
   | true =>
    rw[hf]at hC
    simp[hbx,hfin,h1,hso,hx.r,hC,hc]
  ·rw[if_neg hc]at hC
   simp[hbx,hfin,h1,hso,hx.r,hC,hc]
end
end Go.Proofs.YtmkmimgokagimaaGreat
