/-
  How many blocks a record has. No statement of a seat is proved here.
-/
import Derived.Test.YtmkmimgokagimaaGreatRecFns
import Derived.Test.YtmkmimgokagimaaGreatMLeGoes0
set_option linter.unusedVariables false
set_option linter.unusedSimpArgs false
set_option linter.unusedSectionVars false
set_option linter.unnecessarySimpa false
set_option maxRecDepth 100000
namespace Go.Proofs.YtmkmimgokagimaaGreat
open Go.Ab
attribute [local simp] bn aV aF bj bh keep thr bD aX bc dx dw cN bE aD ct List.take_of_length_le
theorem Lk{r:Rcd}(h:jd r=true):recZ r = .isl 1 (by8 (recB r)) none:=by
 unfold jd at h
 unfold recZ recB
 split at h
 ·rename_i k1
  simp only[Bool.and_eq_true]at h
  rw[if_pos k1,if_pos k1,if_pos h.2.1]
 ·rename_i k1
  rw[if_neg k1,if_neg k1]
  split at h
  ·rename_i k2
   simp only[Bool.and_eq_true]at h
   rw[if_pos k2,if_pos k2,if_pos h.2.1]
  ·rename_i k2
   rw[if_neg k2,if_neg k2]
   split at h
   ·rename_i k3
    simp only[Bool.and_eq_true]at h
    rw[if_pos k3,if_pos h.1]
   ·cases h
theorem Dl{r:Rcd}(h:jd r=true):(r.kind=1∧(recB r).length=8)∨(r.kind=2∧(recB r).length=3+D7 r.op∧opB r.op=true)∨(r.kind=3∧(recB r).length=8):=by
 unfold jd at h
 unfold recB
 split at h
 ·rename_i k1
  refine .inl ⟨k1,?_⟩
  rw[if_pos k1];simp
 ·rename_i k1
  rw[if_neg k1]
  split at h
  ·rename_i k2
   simp only[Bool.and_eq_true]at h
   refine .inr (.inl ⟨k2,?_,h.2.1⟩)
   rw[if_pos k2]
   simp[vN h.2.1];omega
  ·rename_i k2
   rw[if_neg k2]
   split at h
   ·rename_i k3
    refine .inr (.inr ⟨k3,?_⟩)
    simp[wo]
   ·cases h
def recN(r:Rcd):Nat:=((recB r).length+118) / 119
theorem vH{r:Rcd}(h:jd r=true):1≤recN r∧recN r≤3∧(r.kind=2∨recN r=1):=by
 unfold recN
 rcases Dl h with ⟨k,e⟩ | ⟨k,e,ho⟩ | ⟨k,e⟩
 ·rw[e];simp
 ·rw[e];have:=uW ho;exact⟨by omega,by omega,.inl k⟩
 ·rw[e];simp
theorem Ea(k:UInt8)(u:Int)(a_1:UInt8)(a_2:UInt8)(a_3:UInt32)(a_4:UInt8)(a_5:Int)(a_6:UInt8)(a_7:UInt32)(a_8:UInt8)(a_9:Int)(a_10:Int)(a_11:UInt8)(a_12:UInt32)(a_13:UInt8)(a_14:Int)(a_15:UInt8)(a_16:UInt32)(c g1:Int)(v:UInt8)(w:UInt32)(o:Bool){x:AV}{l:List Int}(hx:Sl 1 (rows l) x)(hl:l.length<2000000) :
 limf env 42 [.agg [a8 k,aI u,a8 a_1,a8 a_2,a32 a_3,a8 a_4,aI a_5,a8 a_6,a32 a_7,a8 a_8,aI a_9,aI a_10,a8 a_11,a32 a_12,a8 a_13,aI a_14,a8 a_15,a32 a_16,x,aI c,aI g1,a8 v,a32 w,aB o]]=some (if jd ⟨k,u,(⟨a_1,⟨a_2,a_3,a_4⟩,a_5,⟨⟨⟨a_6,a_7,a_8⟩,a_9⟩,a_10⟩,⟨⟨a_11,a_12,a_13⟩,a_14⟩,⟨a_15,a_16⟩,l⟩:Opn),c,g1,v,w,o⟩ then .tup [aI (recN ⟨k,u,(⟨a_1,⟨a_2,a_3,a_4⟩,a_5,⟨⟨⟨a_6,a_7,a_8⟩,a_9⟩,a_10⟩,⟨⟨a_11,a_12,a_13⟩,a_14⟩,⟨a_15,a_16⟩,l⟩:Opn),c,g1,v,w,o⟩),aI 0] else .tup [aI 0,aI 8]):=by
 refine az (fn:=Tryz.f42) (c:=pJ) rfl (by kernel_rfl) (by kernel_rfl) (by kernel_rfl) (by kernel_rfl) ?_;refine vj _ _ _ fun g=>?_
 have hB:=yn k u a_1 a_2 a_3 a_4 a_5 a_6 a_7 a_8 a_9 a_10 a_11 a_12 a_13 a_14 a_15 a_16 c g1 v w o hx hl
 have hr:=hx.r
 have hz := @Lk ⟨k,u,(⟨a_1,⟨a_2,a_3,a_4⟩,a_5,⟨⟨⟨a_6,a_7,a_8⟩,a_9⟩,a_10⟩,⟨⟨a_11,a_12,a_13⟩,a_14⟩,⟨a_15,a_16⟩,l⟩:Opn),c,g1,v,w,o⟩
 have hlen := @Dl ⟨k,u,(⟨a_1,⟨a_2,a_3,a_4⟩,a_5,⟨⟨⟨a_6,a_7,a_8⟩,a_9⟩,a_10⟩,⟨⟨a_11,a_12,a_13⟩,a_14⟩,⟨a_15,a_16⟩,l⟩:Opn),c,g1,v,w,o⟩
 have hN:recN ⟨k,u,(⟨a_1,⟨a_2,a_3,a_4⟩,a_5,⟨⟨⟨a_6,a_7,a_8⟩,a_9⟩,a_10⟩,⟨⟨a_11,a_12,a_13⟩,a_14⟩,⟨a_15,a_16⟩,l⟩:Opn),c,g1,v,w,o⟩=((recB ⟨k,u,(⟨a_1,⟨a_2,a_3,a_4⟩,a_5,⟨⟨⟨a_6,a_7,a_8⟩,a_9⟩,a_10⟩,⟨⟨a_11,a_12,a_13⟩,a_14⟩,⟨a_15,a_16⟩,l⟩:Opn),c,g1,v,w,o⟩).length+118) / 119:=rfl
 cases hI:jd ⟨k,u,(⟨a_1,⟨a_2,a_3,a_4⟩,a_5,⟨⟨⟨a_6,a_7,a_8⟩,a_9⟩,a_10⟩,⟨⟨a_11,a_12,a_13⟩,a_14⟩,⟨a_15,a_16⟩,l⟩:Opn),c,g1,v,w,o⟩ with
 | false =>
  rw[hI]at hB
  generalize hzz:recZ ⟨k,u,(⟨a_1,⟨a_2,a_3,a_4⟩,a_5,⟨⟨⟨a_6,a_7,a_8⟩,a_9⟩,a_10⟩,⟨⟨a_11,a_12,a_13⟩,a_14⟩,⟨a_15,a_16⟩,l⟩:Opn),c,g1,v,w,o⟩=z at *
  clear hz hlen hN
  have hc:z = .isl 1 [a8 k] (some 1) ∨∃es,z = .isl 1 es none:=by
   rw[←hzz];unfold recZ
   split
   ·exact .inr ⟨_,rfl⟩
   ·split
    ·exact .inr ⟨_,rfl⟩
    ·split
     ·split
      ·exact .inr ⟨_,rfl⟩
      ·exact .inl rfl
     ·exact .inl rfl
  clear hzz
  rcases hc with rfl | ⟨es,rfl⟩<;>simp[af,ah,ad,ae,ab, *,mJ]
 | true =>
  rw[hz hI,hI]at hB
  have hb:(recB ⟨k,u,(⟨a_1,⟨a_2,a_3,a_4⟩,a_5,⟨⟨⟨a_6,a_7,a_8⟩,a_9⟩,a_10⟩,⟨⟨a_11,a_12,a_13⟩,a_14⟩,⟨a_15,a_16⟩,l⟩:Opn),c,g1,v,w,o⟩).length≤1000:=by
   rcases hlen hI with ⟨_,e⟩ | ⟨_,e,ho⟩ | ⟨_,e⟩
   ·omega
   ·have:=uW ho;omega
   ·omega
  rw[hN]
  clear hz hlen hN
  generalize recB ⟨k,u,(⟨a_1,⟨a_2,a_3,a_4⟩,a_5,⟨⟨⟨a_6,a_7,a_8⟩,a_9⟩,a_10⟩,⟨⟨a_11,a_12,a_13⟩,a_14⟩,⟨a_15,a_16⟩,l⟩:Opn),c,g1,v,w,o⟩=bs at *
  have w1:=IntWalk.i64_in ((bs.length:Int)+119) (by omega)
  have w2:=IntWalk.i64_in ((bs.length:Int)+119 - 1) (by omega)
  have e1:((bs.length:Int)+119 - 1)=bs.length+118:=by omega
  have hq:=fun t xo yo=>IG env.P t xo yo .i64 ((bs.length:Int)+118) 119 (by decide)
  have e2:((bs.length:Int)+118).tdiv 119=(((bs.length+118) / 119:Nat):Int):=by
   rw[Int.tdiv_eq_ediv_of_nonneg (by omega)];omega
  rw[e2,IntWalk.i64_in _ (by omega)]at hq
  rw[e1]at w2
  simp[af,ah,ad,ae,ab, *,mJ]
end Go.Proofs.YtmkmimgokagimaaGreat
namespace Go.Proofs.YtmkmimgokagimaaGreat
open Go.Ab
theorem B7(us0:List Clear)(qs:List Quota)(gr0:Int)(l2:List (Rcd × AV)) : ∀(l:List (Rcd × AV)) (b:Book),ofB us0 qs gr0 b (l++l2)=(ofB us0 qs gr0 b l).bind fun b'=>ofB us0 qs gr0 b' l2
 | [],b=>rfl
 | q :: l,b=>by
  simp only[List.cons_append,ofB]
  split
  ·exact B7 us0 qs gr0 l2 l _
  ·rfl
theorem JG{a:UInt8}{b:UInt32}{c:UInt8}{d:UInt32}(h:pV a b c d=true) : ¬(a=c∧b=d):=by
 rintro⟨rfl,rfl⟩
 simp[pV]at h
theorem CZ{a:UInt8}{b:UInt32}{c:UInt8}{d:UInt32}{e:UInt8}{f:UInt32}(h:pV a b c d=true)(h':pV c d e f=true):pV a b e f=true:=by
 simp only[pV,Bool.or_eq_true,Bool.and_eq_true,decide_eq_true_eq]at *
 rcases h with h | ⟨rfl,h⟩<;>rcases h' with h' | ⟨rfl,h'⟩
 ·left;rw[UInt8.lt_iff_toNat_lt]at *;omega
 ·left;exact h
 ·left;exact h'
 ·right;refine⟨rfl,?_⟩;rw[UInt32.lt_iff_toNat_lt]at *;omega
theorem AH : ∀ {l:List Quota} {p:Quota},qRow (some p) l=true →∀q∈l,pV p.lv p.cats q.lv q.cats=true
 | [],_,_=>by intro q hq;cases hq
 | r :: l,p,h=>by
  intro q hq
  simp only[qRow,Bool.and_eq_true]at h
  have hpr:pV p.lv p.cats r.lv r.cats=true:=h.1.2
  rcases List.mem_cons.1 hq with rfl | hq
  ·exact hpr
  ·exact CZ hpr (AH h.2 q hq)
theorem Di{l:List Quota}{p:Option Quota}{q:Quota}(h:qRow p (q :: l)=true):qRow (some q) l=true:=by
 simp only[qRow,Bool.and_eq_true]at h;exact h.2
theorem Bb : ∀ {l:List Quota} {p:Option Quota},qRow p l=true →∀q∈l,l.find? (pB q.lv q.cats)=some q
 | [],_,_=>by intro q hq;cases hq
 | r :: l,p,h=>by
  intro q hq
  rw[List.find?_cons]
  rcases List.mem_cons.1 hq with rfl | hq
  ·simp[pB]
  ·have ha:=AH (Di h) q hq
   have:pB q.lv q.cats r=false:=by
    cases e:pB q.lv q.cats r with
    | false=>rfl
    | true=>simp[pB]at e;exact absurd e (JG ha)
   rw[this]
   exact Bb (Di h) q hq
def useK(b:Book)(v:Lab):Use:=useD (dc v b.used)
def wt(u:Use):Int:=u.opens+4 * u.ops
def pot(b:Book):List Quota→Int
 | []=>0
 | q :: l=>wt (useK b ⟨q.lv,q.cats⟩)+pot b l
theorem J9{b b':Book}(h : ∀v,wt (useK b v)≤wt (useK b' v)) : ∀l,pot b l≤pot b' l
 | []=>Int.le_refl _
 | q :: l=>by have:=J9 h l;have:=h ⟨q.lv,q.cats⟩;simp only[pot];omega
theorem B4{b b':Book}(h : ∀v,wt (useK b v)≤wt (useK b' v)){d:Int}{v:Lab}(hd:wt (useK b v)+d≤wt (useK b' v)) : ∀l,(∃q∈l,q.lv=v.lv∧q.cats=v.cats)→pot b l+d≤pot b' l
 | [],hq=>by obtain⟨q,hq,_⟩:=hq;cases hq
 | r :: l,hq=>by
  simp only[pot]
  obtain⟨q,hm,h1,h2⟩:=hq
  rcases List.mem_cons.1 hm with rfl | hm
  ·have:=J9 h l
   have e:(⟨q.lv,q.cats⟩:Lab)=v:=by rw[h1,h2]
   rw[e];omega
  ·have:=B4 h hd l ⟨q,hm,h1,h2⟩
   have:=h ⟨r.lv,r.cats⟩
   omega
theorem AP{b:Book}{us0:List Clear}{qs:List Quota}{gr0:Int} : ∀ {l:List Quota} {n:Int},(∀q∈l,wt (useK b ⟨q.lv,q.cats⟩)≤q.opens+4 * q.ops)→n+pot b l≤sumQ n l
 | [],n,_=>by simp[pot,sumQ]
 | q :: l,n,h=>by
  have h1:=h q List.mem_cons_self
  have h2:=AP (us0:=us0) (qs:=qs) (gr0:=gr0) (b:=b) (l:=l) (n:=n+q.opens+4 * q.ops) (fun r hr=>h r (List.mem_cons_of_mem _ hr))
  show n+(_+pot b l)≤sumQ (n+q.opens+4 * q.ops) l
  omega
def jS(h:Han)(l:List (Rcd × AV)):Int:=l.foldl (fun s p=>if p.1.kind=2∧p.1.op.h=h then p.1.op.serial else s) 0
theorem sx(h:Han)(l:List (Rcd × AV))(p:Rcd × AV):jS h (l++[p])=if p.1.kind=2∧p.1.op.h=h then p.1.op.serial else jS h l:=by
 simp[jS]
def kN(l:List (Rcd × AV)):Int:=l.foldl (fun n p=>n+recN p.1) 0
theorem qy(l:List (Rcd × AV))(p:Rcd × AV):kN (l++[p])=kN l+recN p.1:=by simp[kN]
structure Inv (us0:List Clear) (qs:List Quota) (gr0:Int) (l:List (Rcd × AV)) (b:Book):Prop where
 use : ∀v:Lab,0≤(useK b v).opens∧(useK b v).opens≤(eY us0 qs gr0 v.lv v.cats).opens∧0≤(useK b v).ops∧(useK b v).ops≤(eY us0 qs gr0 v.lv v.cats).ops∧(useK b v).cells≤(eY us0 qs gr0 v.lv v.cats).cells
 blk:kN l+b.gr≤gr0+pot b qs
 gr:0≤b.gr
 ser : ∀h:Han,(sesD (dc h b.ses)).s=jS h l∧((sesD (dc h b.ses)).o=false→jS h l=0)
 up : ∀h:Han,0≤jS h l∧jS h l<16777216 ∧∀p∈l,p.1.kind=2→p.1.op.h=h→p.1.op.serial≤jS h l
theorem zm{us0:List Clear}{qs:List Quota}{gr0:Int}(hp:polB us0 qs gr0=true)(a:UInt8)(c:UInt32):0≤(eY us0 qs gr0 a c).opens∧(eY us0 qs gr0 a c).opens≤64∧0≤(eY us0 qs gr0 a c).ops∧(eY us0 qs gr0 a c).ops≤256∧0≤(eY us0 qs gr0 a c).cells:=by
 have hr:qRow none qs=true:=by simp only[polB,Bool.and_eq_true]at hp;exact hp.1.2
 unfold eY
 split
 ·unfold vI
  cases hf:qs.find? (pB a c) with
  | none=>simp
  | some q =>
   have:=F4 (zn hr q (List.mem_of_find?_eq_some hf))
   simp only[Er]
   omega
 ·simp
theorem AM{us0:List Clear}{qs:List Quota}{gr0:Int}{a:UInt8}{c:UInt32}(h:0<(eY us0 qs gr0 a c).opens∨0<(eY us0 qs gr0 a c).ops) : ∃q∈qs,q.lv=a∧q.cats=c:=by
 unfold eY at h
 split at h
 ·unfold vI at h
  cases hf:qs.find? (pB a c) with
  | none=>rw[hf]at h;simp at h
  | some q =>
   have:=List.find?_some hf
   simp[pB]at this
   exact⟨q,List.mem_of_find?_eq_some hf,this⟩
 ·simp at h
theorem C5(b:Book)(v:Lab)(u:Use)(v':Lab){us:List Clear}{gr:Int}{ses:List (Han × AV)}{hist:List (Opn × AV)}:useK ⟨us,gr,ses,setK v u.av b.used,hist⟩ v'=if v'=v then u else useK b v':=by
 unfold useK
 simp only
 split
 ·rename_i e;subst e;rw[qq,Fh]
 ·rename_i e;rw[oI e]
end Go.Proofs.YtmkmimgokagimaaGreat
