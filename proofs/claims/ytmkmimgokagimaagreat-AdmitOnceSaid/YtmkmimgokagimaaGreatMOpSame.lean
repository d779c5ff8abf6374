/-
  Bytes copied and read: what these functions answer. No statement of a seat is proved here.
-/
import Derived.Test.YtmkmimgokagimaaGreatOpBytes
import Derived.Test.YtmkmimgokagimaaGreatMOpFns
set_option linter.unusedVariables false
set_option linter.unusedSimpArgs false
set_option linter.unusedSectionVars false
set_option linter.unnecessarySimpa false
set_option maxRecDepth 100000
namespace Go.Proofs.YtmkmimgokagimaaGreat
open Go.Ab
attribute [local simp] bj aL aF bg bf keep thr bx aT bc da cZ cJ bD aD bM List.take_of_length_le
end Go.Proofs.YtmkmimgokagimaaGreat
namespace Go.Proofs.YtmkmimgokagimaaGreat
open Go.Ab
attribute [local simp] bj aL aF bg bf keep thr bx aT bc da cZ cJ bD aD bM List.take_of_length_le
theorem Aj{f:FuncId}(hm:(env.mode f == 2)=true)(dep:Nat)(H:Heap)(r:Ref)(first args captured:List AV) :
 aG env true (limf env) (limt env dep) H r (some (.fn (.func f) first captured)) args=limt env dep (.fn f) (first++args++captured) H:=by
 have h:env.mode f=2:=by simpa using hm
 simp[aG,jF,mI,nRes,orW,h]
end Go.Proofs.YtmkmimgokagimaaGreat
namespace Go.Proofs.YtmkmimgokagimaaGreat
open Go.Ab
def qf(o:Opn):List UInt8:=qv o++(if o.kind=1 then xJ o.a++eP o.l else if o.kind=3 then o.to.lv :: be 4 o.to.cats.toNat else [])
theorem Fu(o:Opn):(qv o).length=24:=by simp[qv]
theorem zl{o:Opn}(h:opB o=true):1≤o.serial∧o.serial<16777216∧(1≤o.s.f.n∧o.s.f.n≤1099511627776)∧1≤o.s.many∧o.s.many≤64 ∧
 ((o.kind=1∧o.to=⟨0,0⟩∧(o.a=C2∨(1≤o.a.n∧o.a.n≤1099511627776))∧(o.l.length:Int)=o.s.many∧rowB o.l=true)∨(o.kind=2∧o.to=⟨0,0⟩∧o.a=C2∧o.l=[])∨(o.kind=3∧o.a=C2∧o.l=[]∧o.to.lv≤15)):=by
 simp only[opB,Bool.and_eq_true,decide_eq_true_eq]at h
 obtain⟨hh,h1,h2,hs,hm⟩:=h
 have hn:=lX hs
 have hi:=JV (K0 hs)
 refine⟨h1,h2,hi,hn.2.1,hn.2.2.1,?_⟩
 have hz : ∀t:Lab,C1 t=true→t=⟨0,0⟩:=by
  rintro⟨a,b⟩ h;simp[C1]at h;rw[h.1,h.2]
 unfold mayB at hm
 split at hm
 ·rename_i k1
  simp only[insB,Bool.and_eq_true,Bool.or_eq_true,decide_eq_true_eq]at hm
  refine .inl ⟨k1,hz _ hm.1,?_,hm.2.2.2.1,hm.2.2.2.2⟩
  rcases hm.2.1 with e | e
  ·exact .inl ((yF _).1 e)
  ·exact .inr (JV e)
 ·split at hm
  ·rename_i k2
   simp only[delB,FC,Bool.and_eq_true,decide_eq_true_eq]at hm
   exact .inr (.inl ⟨k2,hz _ hm.1,(yF _).1 hm.2.1,hm.2.2⟩)
  ·split at hm
   ·rename_i k3
    simp only[raiB,FC,Bool.and_eq_true,decide_eq_true_eq]at hm
    exact .inr (.inr ⟨k3,(yF _).1 hm.1.1,hm.1.2,hm.2⟩)
   ·cases hm
def Ix(o:Opn):Nat:=if o.kind=1 then 37+4 * o.s.many.toNat else if o.kind=3 then 29 else 24
theorem HT(a:Idd):(xJ a).length=13:=by unfold xJ;split<;>simp
theorem EN{o:Opn}(h:opB o=true):(qf o).length=Ix o:=by
 have hp:=zl h
 unfold qf Ix
 rw[List.length_append,Fu]
 rcases hp.2.2.2.2.2 with ⟨k,_,_,hl,_⟩ | ⟨k,_⟩ | ⟨k,_⟩
 ·rw[if_pos k,if_pos k,List.length_append,HT,sN];omega
 ·rw[k];rfl
 ·rw[k];simp
end Go.Proofs.YtmkmimgokagimaaGreat
namespace Go.Proofs.YtmkmimgokagimaaGreat
open Go.Ab
attribute [local simp] bj aL aF bg bf keep thr bx aT bc da cZ cJ bD aD bM List.take_of_length_le
theorem FV{o:Opn}(h:opB o=true):24≤Ix o∧Ix o≤293:=by
 have hp:=zl h
 unfold Ix
 split
 ·omega
 ·split<;>omega
def putA(o:Opn):AV:=if opB o then .tup [.isl 1 (by8 (qf o)) none,aI 0] else .tup [aNil,aI 8]
theorem Ou(a_1:UInt8)(a_2:UInt8)(a_3:UInt32)(a_4:UInt8)(a_5:Int)(a_6:UInt8)(a_7:UInt32)(a_8:UInt8)(a_9:Int)(a_10:Int)(a_11:UInt8)(a_12:UInt32)(a_13:UInt8)(a_14:Int)(a_15:UInt8)(a_16:UInt32){x:AV}{l:List Int}(hx:Sl 1 (rows l) x)(hl:l.length<2000000):limf env 163 [.agg [a8 a_1,a8 a_2,a32 a_3,a8 a_4,aI a_5,a8 a_6,a32 a_7,a8 a_8,aI a_9,aI a_10,a8 a_11,a32 a_12,a8 a_13,aI a_14,a8 a_15,a32 a_16,x]]=some (putA (⟨a_1,⟨a_2,a_3,a_4⟩,a_5,⟨⟨⟨a_6,a_7,a_8⟩,a_9⟩,a_10⟩,⟨⟨a_11,a_12,a_13⟩,a_14⟩,⟨a_15,a_16⟩,l⟩:Opn)):=by
 unfold putA
 cases ho:opB (⟨a_1,⟨a_2,a_3,a_4⟩,a_5,⟨⟨⟨a_6,a_7,a_8⟩,a_9⟩,a_10⟩,⟨⟨a_11,a_12,a_13⟩,a_14⟩,⟨a_15,a_16⟩,l⟩:Opn) with
 | false=>rw[Lg a_1 a_2 a_3 a_4 a_5 a_6 a_7 a_8 a_9 a_10 a_11 a_12 a_13 a_14 a_15 a_16 hx hl ho];rfl
 | true =>
  have hp:=zl ho
  rw[if_pos rfl]
  unfold qf
  rcases hp.2.2.2.2.2 with ⟨hk,_⟩ | ⟨hk,_⟩ | ⟨hk,_⟩
  ·rw[Lj a_1 a_2 a_3 a_4 a_5 a_6 a_7 a_8 a_9 a_10 a_11 a_12 a_13 a_14 a_15 a_16 hx hl ho hk,if_pos hk]
  ·simp only at hk
   rw[Li a_1 a_2 a_3 a_4 a_5 a_6 a_7 a_8 a_9 a_10 a_11 a_12 a_13 a_14 a_15 a_16 hx hl ho hk,if_neg (by simp[hk]),if_neg (by simp[hk]),List.append_nil]
  ·simp only at hk
   rw[Lh a_1 a_2 a_3 a_4 a_5 a_6 a_7 a_8 a_9 a_10 a_11 a_12 a_13 a_14 a_15 a_16 hx hl ho hk,if_neg (by simp[hk]),if_pos hk]
end Go.Proofs.YtmkmimgokagimaaGreat
namespace Go.Proofs.YtmkmimgokagimaaGreat
open Go.Ab
attribute [local simp] bj aL aF bg bf keep thr bx aT bc da cZ cJ bD aD bM List.take_of_length_le
def idxR(t:Int):List Int→Nat→Int
 | [],_ => -1
 | a :: l,k=>if t=a then k else idxR t l (k+1)
theorem Mb(t:Int)(l:List Int) : ∀k:Nat,(0≤idxR t l k↔t∈l):=by
 induction l with
 | nil=>intro k;simp[idxR]
 | cons a l ih =>
  intro k
  unfold idxR
  by_cases h:t=a
  ·simp[h]
  ·rw[if_neg h,ih];simp[h]
theorem E4{x0:AV}{Q:AV→Heap→Prop}{l:List Int}(hx:Sl 1 (rows l) x0)(hl:l.length<4611686018427387904){t:Int}{H:Heap} :
 ∀(s:List Int)(k:Nat)(i:Int),l.drop k=s→k≤l.length→i=k→(∀y,y=aI (idxR t s k)→Q y H) →
 GoL env Tryz.f214 0 cS [(8,aI i),(0,x0),(1,aR t),(7,aI l.length)] H Q:=by
 intro s
 induction s with
 | nil =>
  rintro k i hs hk rfl hQ
  obtain rfl:=drop_nil hs hk
  refine gb _ _ _ _ _ _ fun g=>?_
  simp[af,ah,ad,ae,ab, *,cU]
  all_goals exact hQ _ rfl
 | cons a s ih =>
  rintro k i hs hk rfl hQ
  obtain⟨hlt,hg,hs',hg'⟩:=drop_cons hs
  refine gb _ _ _ _ _ _ fun g=>?_
  have e3:=IntWalk.i64_in ((k:Int)+1) (by omega)
  by_cases hA:t=a
  ·have e:idxR t (a :: s) k=k:=by unfold idxR;rw[if_pos hA]
   simp[af,ah,ad,ae,ab, *,cU,hx.idx,rows,aR]
   all_goals exact hQ _ (by simp[e])
  ·have e:idxR t (a :: s) k=idxR t s (k+1):=by rw[idxR,if_neg hA]
   have ih':=ih (k+1) ((k:Int)+1) hs' (by omega) (by simp) (fun y ey=>hQ y (by rw[ey,e]))
   clear ih hQ e
   simp[af,ah,ad,ae,ab, *,cU,hx.idx,rows,aR]
   exact ih'
section
variable{x:AV}{l:List Int}(hx:Sl 1 (rows l) x)(hl:l.length<4611686018427387904)
include hx hl
theorem Lm(t:Int):limf env 214 [x,aR t]=some (aI (idxR t l 0)):=by
 refine aw (fn:=Tryz.f214) (c:=eu) rfl (by kernel_rfl) (by kernel_rfl) (by kernel_rfl) (by kernel_rfl) ?_;refine mu _ _ _ _ fun g=>?_
 have h:=hx.len
 simp[af,ah,ad,ae,ab, *,gS]
 exact E4 hx hl l 0 _ rfl (by omega) rfl (fun y e=>by simp[e])
theorem Ey(t:Int):limf env 176 [x,aR t]=some (aB (decide (t∈l))):=by
 refine aw (fn:=Tryz.f176) (c:=fO) rfl (by kernel_rfl) (by kernel_rfl) (by kernel_rfl) (by kernel_rfl) ?_;refine kL _ _ _ _ fun g=>?_
 have h:=Lm hx hl t
 have hr:=hx.r
 have e:=Mb t l 0
 simp[af,ah,ad,ae,ab, *,fU]
end
theorem Dt(a_1:UInt8)(a_2:UInt8)(a_3:UInt32)(a_4:UInt8)(a_5:Int)(a_6:UInt8)(a_7:UInt32)(a_8:UInt8)(a_9:Int)(a_10:Int)(a_11:UInt8)(a_12:UInt32)(a_13:UInt8)(a_14:Int)(a_15:UInt8)(a_16:UInt32){x:AV}{l:List Int}(hx:Sl 1 (rows l) x)(hl:l.length<4611686018427387904):limf env 121 [.agg [a8 a_1,a8 a_2,a32 a_3,a8 a_4,aI a_5,a8 a_6,a32 a_7,a8 a_8,aI a_9,aI a_10,a8 a_11,a32 a_12,a8 a_13,aI a_14,a8 a_15,a32 a_16,x]]=some (aB (!decide (-1∈l))):=by
 refine aw (fn:=Tryz.f121) (c:=Ao) rfl (by kernel_rfl) (by kernel_rfl) (by kernel_rfl) (by kernel_rfl) ?_;refine Ej _ _ _ fun g=>?_
 have h:=Ey hx hl (-1)
 have hr:=hx.r
 unfold aR at h
 simp[af,ah,ad,ae,ab, *,Av]
def Dr(a b:Opn):Bool:=decide (a.kind=b.kind)&&((decide (a.h.lv=b.h.lv)&&decide (a.h.cats=b.h.cats)&&decide (a.h.num=b.h.num))&&(decide (a.serial=b.serial) &&
 ((decide (a.s.f.h.lv=b.s.f.h.lv)&&decide (a.s.f.h.cats=b.s.f.h.cats)&&decide (a.s.f.h.num=b.s.f.h.num)&&decide (a.s.f.n=b.s.f.n)&&decide (a.s.many=b.s.many)) &&
 ((decide (a.a.h.lv=b.a.h.lv)&&decide (a.a.h.cats=b.a.h.cats)&&decide (a.a.h.num=b.a.h.num)&&decide (a.a.n=b.a.n))&&((decide (a.to.lv=b.to.lv)&&decide (a.to.cats=b.to.cats))&&decide (a.l=b.l))))))
theorem Lf(a_1:UInt8)(a_2:UInt8)(a_3:UInt32)(a_4:UInt8)(a_5:Int)(a_6:UInt8)(a_7:UInt32)(a_8:UInt8)(a_9:Int)(a_10:Int)(a_11:UInt8)(a_12:UInt32)(a_13:UInt8)(a_14:Int)(a_15:UInt8)(a_16:UInt32)(b_1:UInt8)(b_2:UInt8)(b_3:UInt32)(b_4:UInt8)(b_5:Int)(b_6:UInt8)(b_7:UInt32)(b_8:UInt8)(b_9:Int)(b_10:Int)(b_11:UInt8)(b_12:UInt32)(b_13:UInt8)(b_14:Int)(b_15:UInt8)(b_16:UInt32){x y:AV}{l m:List Int}(hx:Sl 1 (rows l) x)(hy:Sl 1 (rows m) y)(hl:l.length<1000000000):limf env 211 [.agg [a8 a_1,a8 a_2,a32 a_3,a8 a_4,aI a_5,a8 a_6,a32 a_7,a8 a_8,aI a_9,aI a_10,a8 a_11,a32 a_12,a8 a_13,aI a_14,a8 a_15,a32 a_16,x],.agg [a8 b_1,a8 b_2,a32 b_3,a8 b_4,aI b_5,a8 b_6,a32 b_7,a8 b_8,aI b_9,aI b_10,a8 b_11,a32 b_12,a8 b_13,aI b_14,a8 b_15,a32 b_16,y]]=some (aB (Dr (⟨a_1,⟨a_2,a_3,a_4⟩,a_5,⟨⟨⟨a_6,a_7,a_8⟩,a_9⟩,a_10⟩,⟨⟨a_11,a_12,a_13⟩,a_14⟩,⟨a_15,a_16⟩,l⟩:Opn) (⟨b_1,⟨b_2,b_3,b_4⟩,b_5,⟨⟨⟨b_6,b_7,b_8⟩,b_9⟩,b_10⟩,⟨⟨b_11,b_12,b_13⟩,b_14⟩,⟨b_15,b_16⟩,m⟩:Opn))):=by
 refine aw (fn:=Tryz.f211) (c:=BM) rfl (by kernel_rfl) (by kernel_rfl) (by kernel_rfl) (by kernel_rfl) ?_;refine GO _ _ _ _ fun g=>?_
 have hq:=IM hx hy (by omega)
 have hr:=hx.r
 have hr2:=hy.r
 unfold Dr
 cases c1:decide (a_1=b_1) with
 | false=>simp[af,ah,ad,ae,ab, *,kB,eqA,eqFs]
 | true =>
 cases c2:(decide (a_2=b_2)&&decide (a_3=b_3)&&decide (a_4=b_4)) with
 | false=>simp[af,ah,ad,ae,ab, *,kB,eqA,eqFs]
 | true =>
 cases c3:decide (a_5=b_5) with
 | false=>simp[af,ah,ad,ae,ab, *,kB,eqA,eqFs]
 | true =>
 cases c4:(decide (a_6=b_6)&&decide (a_7=b_7)&&decide (a_8=b_8)&&decide (a_9=b_9)&&decide (a_10=b_10)) with
 | false=>simp[af,ah,ad,ae,ab, *,kB,eqA,eqFs]
 | true =>
 cases c5:(decide (a_11=b_11)&&decide (a_12=b_12)&&decide (a_13=b_13)&&decide (a_14=b_14)) with
 | false=>simp[af,ah,ad,ae,ab, *,kB,eqA,eqFs]
 | true =>
 cases c6:(decide (a_15=b_15)&&decide (a_16=b_16)) with
 | false=>simp[af,ah,ad,ae,ab, *,kB,eqA,eqFs]
 | true=>simp[af,ah,ad,ae,ab, *,kB,eqA,eqFs]
end Go.Proofs.YtmkmimgokagimaaGreat
