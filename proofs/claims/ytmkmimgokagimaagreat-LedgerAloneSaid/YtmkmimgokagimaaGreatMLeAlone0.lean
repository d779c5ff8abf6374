/-
  What fits counts once: the mathematics. No statement of a seat is proved here.
-/
import Derived.Test.YtmkmimgokagimaaGreatMLeOnce1
import Derived.Test.YtmkmimgokagimaaGreatLeAdm0
import Derived.Test.YtmkmimgokagimaaGreatLeVc4
set_option linter.unusedVariables false
set_option linter.unusedSimpArgs false
set_option linter.unusedSectionVars false
set_option linter.unnecessarySimpa false
set_option maxRecDepth 100000
namespace Go.Proofs.YtmkmimgokagimaaGreat
open Go.Ab
end Go.Proofs.YtmkmimgokagimaaGreat
namespace Go.Proofs.YtmkmimgokagimaaGreat
open Go.Ab
theorem rO{a b:UInt32}:a &&& ~~~b=0 ↔ ∀i,a.toBitVec.getLsbD i=true→b.toBitVec.getLsbD i=true:=by
 rw[←UInt32.toBitVec_inj]
 constructor
 ·intro h i hi
  have:=congrArg (fun z=>BitVec.getLsbD z i) h
  simp only[UInt32.toBitVec_and,UInt32.toBitVec_not,BitVec.getLsbD_and,BitVec.getLsbD_not,UInt32.toBitVec_ofNat]at this
  have hlt:i<32:=by
   rcases Nat.lt_or_ge i 32 with h | h
   ·exact h
   ·rw[BitVec.getLsbD_of_ge _ _ h]at hi;cases hi
  simp[hi,hlt]at this
  exact this
 ·intro h
  apply BitVec.eq_of_getLsbD_eq
  intro i hi
  simp only[UInt32.toBitVec_and,UInt32.toBitVec_not,BitVec.getLsbD_and,BitVec.getLsbD_not]
  have:=h i
  cases hc:a.toBitVec.getLsbD i with
  | false=>simp
  | true=>simp[this hc]
theorem A7{a b c:Lab}(h1:leqL a b=true)(h2:leqL b c=true):leqL a c=true:=by
 simp only[leqL,Bool.and_eq_true,decide_eq_true_eq]at h1 h2 ⊢
 exact⟨UInt8.le_trans h1.1 h2.1,rO.2 fun i hi=>rO.1 h2.2 i (rO.1 h1.2 i hi)⟩
def lowO(v:Lab)(o:Opn):Bool:=leqL (byL o) v
theorem Gt(ents:List (Idd × AV))(i j:Idd):hJ (setK i (aB true) ents) j=(decide (j=i)||hJ ents j):=by
 unfold hJ
 by_cases e:j=i
 ·subst e;rw[nw];simp
 ·rw[mu e];simp[e]
theorem sj : ∀(ns:List Idd)(ents:List (Idd × AV)) (j:Idd),hJ (vl ents ns) j=(decide (j∈ns)||hJ ents j)
 | [],ents,j=>by simp
 | i :: ns,ents,j=>by
  rw[Fh,sj ns,Gt]
  by_cases e:j=i<;>simp[e]
theorem Ja{s:Spn}{i:Idd}(h:i∈eE s):ofI i=⟨s.f.h.lv,s.f.h.cats⟩:=by
 unfold eE at h
 obtain⟨k,_,rfl⟩:=List.mem_map.1 h
 rfl
theorem I4{o:Opn}(h:opB o=true)(k:o.kind=1):o.s.f.h=o.h:=by
 unfold opB mayB at h
 rw[if_pos k]at h
 simp only[Bool.and_eq_true,insB]at h
 exact(HZ _ _).1 h.2.2.2.2.2.2.1
theorem yI{v w:Lab}(hw:leqL w v=true)(i:Idd) : ∀(l:List Opn)(out:List Lab),vT out (l.filter (lowO v)) i w=vT out l i w
 | [],out=>rfl
 | o :: l,out=>by
  rw[List.filter_cons]
  by_cases e:lowO v o=true
  ·rw[if_pos e]
   exact yI hw i l _
  ·rw[if_neg e,yI hw i l out]
   have hr:mR o i w=false:=by
    cases hr:mR o i w with
    | false=>rfl
    | true =>
     unfold mR at hr
     simp only[Bool.and_eq_true]at hr
     exact absurd (A7 hr.2.2 hw) e
   show vT out l i w=vT (if mR o i w then addL out o.to else out) l i w
   rw[hr];rfl
theorem Dn{v:Lab}{o:Opn}(ho:lowO v o=true)(l:List Opn):oV (l.filter (lowO v)) o=oV l o:=by
 unfold oV yH
 simp only[yI ho]
structure LowD (v:Lab) (ops:List (Opn × AV)) (ents:List (Idd × AV)) (ops':List (Opn × AV)) (ents':List (Idd × AV)):Prop where
 opsE:opsOf ops'=(opsOf ops).filter (lowO v)
 there : ∀i,leqL (ofI i) v=true→hJ ents' i=hJ ents i
 right:lA [] (opsOf ops)=true
 right':lA [] (opsOf ops')=true
 len:ents.length≤64 * ops.length
 len':ents'.length≤64 * ops'.length
theorem LowD.lens{v:Lab}{ops:List (Opn × AV)}{ents:List (Idd × AV)}{ops':List (Opn × AV)}{ents':List (Idd × AV)}(h:LowD v ops ents ops' ents'):ops'.length≤ops.length:=by
 have e:=congrArg List.length h.opsE
 have h2:=List.length_filter_le (lowO v) (opsOf ops)
 simp only[opsOf,List.length_map]at e h2
 omega
theorem CP{v:Lab}{ents ents':List (Idd × AV)}(ht : ∀i,leqL (ofI i) v=true→hJ ents' i=hJ ents i){o:Opn}(ho:lowO v o=true)(i:Idd):vK ents' o i=vK ents o i:=by
 unfold vK
 cases e:leqL (ofI i) (byL o) with
 | false=>simp
 | true=>rw[ht i (A7 e ho)]
theorem yT{v:Lab}{ents ents':List (Idd × AV)}(ht : ∀i,leqL (ofI i) v=true→hJ ents' i=hJ ents i){o:Opn}(ho:lowO v o=true):qi ents' o=qi ents o:=by
 unfold qi
 simp only[CP ht ho]
theorem any_congr{α:Type}{p q:α→Bool} : ∀ {l:List α},(∀x∈l,p x=q x)→l.any p=l.any q
 | [],_=>rfl
 | x :: l,h=>by
  rw[List.any_cons,List.any_cons,h x List.mem_cons_self,any_congr fun y hy=>h y (List.mem_cons_of_mem _ hy)]
theorem wW{l:List Opn}(h:lA [] l=true)(hl:l.length≤2048):oG l=0:=by
 unfold oG
 rw[if_neg (by omega),if_pos h]
section
variable{v:Lab}{ops:List (Opn × AV)}{ents:List (Idd × AV)}{ops':List (Opn × AV)}{ents':List (Idd × AV)}(h:LowD v ops ents ops' ents')(hn:ops.length≤100)
include h hn
theorem Gc{o:Opn}(ho:lowO v o=true)(hB:opB o=true):docE ops' ents' o=docE ops ents o:=by
 have hl:=h.lens
 have h1:=h.len
 have h2:=h.len'
 have hs:=kF (ox hB)
 have hk:xC ops' ents' o=xC ops ents o:=by
  unfold xC
  by_cases k1:o.kind=1
  ·rw[if_pos k1,if_pos k1]
   unfold fL
   have hany:(eE o.s).any (hJ ents')=(eE o.s).any (hJ ents):=any_congr fun i hi=>by
    refine h.there i ?_
    rw[Ja hi,I4 hB k1]
    exact ho
   rw[CP h.there ho,hany,if_neg (show ¬8192<(ents'.length:Int)+o.s.many by omega),if_neg (show ¬8192<(ents.length:Int)+o.s.many by omega)]
  ·rw[if_neg k1,if_neg k1]
   by_cases k2:o.kind=2
   ·rw[if_pos k2,if_pos k2]
    unfold vO
    rw[yT h.there ho]
   ·rw[if_neg k2,if_neg k2]
    unfold yr
    have c1:oG (opsOf ops)=0:=wW h.right (by simp[opsOf];omega)
    have c2:oG (opsOf ops')=0:=wW h.right' (by simp[opsOf];omega)
    rw[yT h.there ho,c1,c2,h.opsE,Dn ho]
 unfold docE
 rw[hk,if_neg (by omega),if_neg (by omega)]
theorem EJ{o:Opn}(hE:docE ops ents o=0)(hB:opB o=true):oV (opsOf ops) o=true:=by
 unfold docE at hE
 rw[if_neg (by omega)]at hE
 unfold xC at hE
 by_cases k3:o.kind=3
 ·rw[if_neg (by rw[k3];decide),if_neg (by rw[k3];decide)]at hE
  unfold yr at hE
  split at hE
  ·cases hE
  ·split at hE
   ·rename_i h2;exact h2.2
   ·cases hE
 ·unfold oV
  rw[if_neg k3]
end
theorem tH{l:List Opn}{o:Opn}(h:lA [] l=true)(hB:opB o=true)(hf:oV l o=true):lA [] (l++[o])=true:=by
 rw[GF,h,Bool.true_and]
 show(opB o&&oV ([]++l) o&&true)=true
 rw[List.nil_append,hB,hf];rfl
theorem ju(l:List (Opn × AV))(p:Opn × AV):opsOf (l++[p])=opsOf l++[p.1]:=by simp[opsOf]
def Ce(ents:List (Idd × AV))(o:Opn):List (Idd × AV):=if o.kind=1 then vl ents (eE o.s) else ents
theorem zf{ents:List (Idd × AV)}{o:Opn}(hB:opB o=true):(Ce ents o).length≤ents.length+64:=by
 have hs:=kF (ox hB)
 unfold Ce
 split
 ·have:=wE (eE o.s) ents
  have hl:(eE o.s).length=o.s.many.toNat:=by simp[eE]
  omega
 ·omega
section
variable{v:Lab}{ops:List (Opn × AV)}{ents:List (Idd × AV)}{ops':List (Opn × AV)}{ents':List (Idd × AV)}(h:LowD v ops ents ops' ents')(hn:ops.length≤100)
include h hn
theorem LowD.low{p p':Opn × AV}(e:p'.1=p.1)(ho:lowO v p.1=true)(hB:opB p.1=true)(hE:docE ops ents p.1=0):opB p'.1=true∧docE ops' ents' p'.1=0∧LowD v (ops++[p]) (Ce ents p.1) (ops'++[p']) (Ce ents' p'.1):=by
 rw[e]
 have hE':docE ops' ents' p.1=0:=by rw[Gc h hn ho hB];exact hE
 refine⟨hB,hE',?_,fun i hi=>?_,?_,?_,?_,?_⟩
 ·rw[ju,ju,h.opsE,List.filter_append,e]
  simp[ho]
 ·unfold Ce
  split
  ·rw[sj,sj,h.there i hi]
  ·exact h.there i hi
 ·rw[ju];exact tH h.right hB (EJ h hn hE hB)
 ·rw[ju,e]
  refine tH h.right' hB ?_
  rw[h.opsE,Dn ho]
  exact EJ h hn hE hB
 ·have:=zf (ents:=ents) hB
  have:=h.len
  simp;omega
 ·have:=zf (ents:=ents') hB
  have:=h.len'
  simp;omega
theorem LowD.high{p:Opn × AV}(ho : ¬lowO v p.1=true)(hB:opB p.1=true)(hE:docE ops ents p.1=0):LowD v (ops++[p]) (Ce ents p.1) ops' ents':=by
 refine⟨?_,fun i hi=>?_,?_,h.right',?_,h.len'⟩
 ·rw[ju,h.opsE,List.filter_append]
  simp[ho]
 ·rw[h.there i hi]
  unfold Ce
  split
  ·rename_i k1
   rw[sj]
   have:decide (i∈eE p.1.s)=false:=by
    rw[decide_eq_false_iff_not]
    intro hm
    rw[Ja hm,I4 hB k1]at hi
    exact ho hi
   rw[this];rfl
  ·rfl
 ·rw[ju];exact tH h.right hB (EJ h hn hE hB)
 ·have:=zf (ents:=ents) hB
  have:=h.len
  simp;omega
end
theorem LowD.nil(v:Lab):LowD v [] [] [] []:=⟨rfl,fun _ _=>rfl,rfl,rfl,Nat.le_refl _,Nat.le_refl _⟩
theorem Dv : ∀ {s ops:List (Opn × AV)} {ents:List (Idd × AV)} {O:List (Opn × AV)} {E:List (Idd × AV)},ji ops ents s=some (O,E)→O=ops++s
 | [],ops,ents,O,E,h=>by
  simp only[ji,Option.some.injEq,Prod.mk.injEq]at h
  rw[←h.1,List.append_nil]
 | p :: s,ops,ents,O,E,h=>by
  unfold ji at h
  split at h
  ·rw[Dv h];simp
  ·cases h
theorem Bd{p:Opn × AV} : ∀ {s ops:List (Opn × AV)} {ents:List (Idd × AV)},ji ops ents (s++[p])=(ji ops ents s).bind fun q=>if opB p.1=true∧docE q.1 q.2 p.1=0 then some (q.1++[p],Ce q.2 p.1) else none
 | [],ops,ents=>by
  show(if opB p.1=true∧docE ops ents p.1=0 then ji (ops++[p]) (Ce ents p.1) [] else none)=_
  rfl
 | q :: s,ops,ents=>by
  simp only[List.cons_append,ji]
  split
  ·exact Bd
  ·rfl
theorem zh{v:Lab} : ∀ {s s' ops ops':List (Opn × AV)} {ents ents':List (Idd × AV)} {O:List (Opn × AV)} {E:List (Idd × AV)},LowD v ops ents ops' ents'→opsOf s'=(opsOf s).filter (lowO v)→ops.length+s.length≤100→ji ops ents s=some (O,E) →
 ∃O' E',ji ops' ents' s'=some (O',E')∧LowD v O E O' E'
 | [],s',ops,ops',ents,ents',O,E,h,hs,hn,hd=>by
  have e:s'=[]:=by
   have:=congrArg List.length hs
   simpa [opsOf] using this
  subst e
  simp only[ji,Option.some.injEq,Prod.mk.injEq]at hd
  obtain⟨rfl,rfl⟩:=hd
  exact⟨ops',ents',rfl,h⟩
 | p :: s,s',ops,ops',ents,ents',O,E,h,hs,hn,hd=>by
  unfold ji at hd
  split at hd
  ·rename_i hc
   simp only[List.length_cons]at hn
   have hs0:opsOf s'=(if lowO v p.1=true then p.1 :: (opsOf s).filter (lowO v) else (opsOf s).filter (lowO v)):=by
    rw[hs]
    show(p.1 :: opsOf s).filter (lowO v)=_
    rw[List.filter_cons]
   by_cases ho:lowO v p.1=true
   ·rw[if_pos ho]at hs0
    cases s' with
    | nil=>simp[opsOf]at hs0
    | cons p' s' =>
     have hs1:p'.1 :: opsOf s'=p.1 :: (opsOf s).filter (lowO v):=hs0
     injection hs1 with e1 e2
     obtain⟨b1,b2,b3⟩:=h.low (by omega) e1 ho hc.1 hc.2
     obtain⟨O',E',g1,g2⟩:=zh b3 e2 (by simp;omega) hd
     refine⟨O',E',?_,g2⟩
     unfold ji
     rw[if_pos ⟨b1,b2⟩]
     exact g1
   ·rw[if_neg ho]at hs0
    exact zh (h.high (by omega) ho hc.1 hc.2) hs0 (by simp;omega) hd
  ·cases hd
theorem EX{v:Lab}{s s':List (Opn × AV)}{o:Opn}(hs:opsOf s'=(opsOf s).filter (lowO v))(hn:s.length≤100)(hv:(ji [] [] s).isSome=true)(ho:lowO v o=true):mG s' o=mG s o∧(ji [] [] s').isSome=true:=by
 obtain⟨⟨O,E⟩,hd⟩:=Option.isSome_iff_exists.1 hv
 obtain⟨O',E',hd',h⟩:=zh (LowD.nil v) hs (by simpa using hn) hd
 have hO:=Dv hd
 refine⟨?_,by rw[hd'];rfl⟩
 unfold mG
 rw[hd,hd']
 dsimp only
 by_cases hB:opB o=true
 ·rw[if_pos hB,if_pos hB,Gc h (by rw[hO];simpa using hn) ho hB]
 ·rw[if_neg hB,if_neg hB]
theorem Dw{s:List (Opn × AV)}{p:Opn × AV}(h:mG s p.1=0):(ji [] [] (s++[p])).isSome=true:=by
 unfold mG at h
 rw[Bd]
 cases hd:ji [] [] s with
 | none=>rw[hd]at h;cases h
 | some q =>
  obtain⟨O,E⟩:=q
  rw[hd]at h
  dsimp only at h
  by_cases hB:opB p.1=true
  ·rw[if_pos hB]at h
   rw[Option.bind_some,if_pos ⟨hB,h⟩];rfl
  ·rw[if_neg hB]at h;cases h
end Go.Proofs.YtmkmimgokagimaaGreat
namespace Go.Proofs.YtmkmimgokagimaaGreat
open Go.Ab
attribute [local simp] bm aP aG bh bg keep thr bF aY bf dw dv cV bG aC cd List.take_of_length_le
section
variable{us:List Clear}{x y:AV}(hx:Sl 3 (eg us) x)(hy:Sl 3 (eg us) y)(hl:us.length<1000000)
include hx hy hl
theorem L0{Q:AV→Heap→Prop}{H:Heap}(hQ:Q (aB true) H) : ∀(s:List Clear)(k:Nat),us.drop k=s→k≤us.length→GoL env Tryz.f109 0 aM [(13,aI k),(1,y),(0,x),(12,aI us.length)] H Q:=by
 intro s
 induction s with
 | nil =>
  rintro k hs hk
  obtain rfl:=drop_nil hs hk
  refine b8 _ _ _ _ _ _ fun g=>?_
  simp[af,ah,ad,ae,ab, *,bu]
 | cons c s ih =>
  rintro k hs hk
  obtain⟨hlt,hg,hs',hg'⟩:=drop_cons hs
  have e3:=IntWalk.i64_in ((k:Int)+1) (by omega)
  have hlt':(k:Int)<us.length:=by omega
  have hn:=ih (k+1) hs' (by omega)
  obtain⟨c1,c2,c3⟩:=c
  have hrd:(eg us)[k]?=some (.agg [a8 c1,a32 c2,aB c3]):=by simp[eg,hg',Clear.enc]
  have hrr : ∀j n ag,dE (eg us) k j n ag=dE [.agg [a8 c1,a32 c2,aB c3]] 0 j n ag:=fun j n ag=>by simp only[dE,hrd];rfl
  have hel:(eg us).length=us.length:=by simp[eg]
  clear ih hs hs' hg hg' hrd
  generalize eg us=es at *
  generalize us.length=n at *
  refine b8 _ _ _ _ _ _ fun g=>?_
  simp[af,ah,ad,ae,ab, *,bu,hx.idx,hy.idx,eqA,eqFs]
  exact hn
theorem Vc:limf env 109 [x,y]=some (aB true):=by
 refine az (fn:=Tryz.f109) (c:=bC) rfl (by kernel_rfl) (by kernel_rfl) (by kernel_rfl) (by kernel_rfl) ?_;refine ed _ _ _ _ fun g=>?_
 have hlp:=fun H (Q:AV→Heap→Prop) (hQ:Q (aB true) H)=>L0 hx hy hl hQ us 0 rfl (by omega)
 have hel:(eg us).length=us.length:=by simp[eg]
 simp[af,ah,ad,ae,ab, *,cC,hx.r,hy.r]
 refine hlp _ _ (by simp)
end
section
variable{qs:List Quota}{x y:AV}(hx:Sl 5 (eK qs) x)(hy:Sl 5 (eK qs) y)(hl:qs.length<1000000)
include hx hy hl
theorem LZ{Q:AV→Heap→Prop}{H:Heap}(hQ:Q (aB true) H) : ∀(s:List Quota)(k:Nat),qs.drop k=s→k≤qs.length→GoL env Tryz.f110 0 aL [(13,aI k),(1,y),(0,x),(12,aI qs.length)] H Q:=by
 intro s
 induction s with
 | nil =>
  rintro k hs hk
  obtain rfl:=drop_nil hs hk
  refine b7 _ _ _ _ _ _ fun g=>?_
  simp[af,ah,ad,ae,ab, *,bt]
 | cons c s ih =>
  rintro k hs hk
  obtain⟨hlt,hg,hs',hg'⟩:=drop_cons hs
  have e3:=IntWalk.i64_in ((k:Int)+1) (by omega)
  have hlt':(k:Int)<qs.length:=by omega
  have hn:=ih (k+1) hs' (by omega)
  obtain⟨c1,c2,c3,c4,c5⟩:=c
  have hrd:(eK qs)[k]?=some (.agg [a8 c1,a32 c2,aI c3,aI c4,aI c5]):=by simp[eK,hg',Quota.enc]
  have hrr : ∀j n ag,dE (eK qs) k j n ag=dE [.agg [a8 c1,a32 c2,aI c3,aI c4,aI c5]] 0 j n ag:=fun j n ag=>by simp only[dE,hrd];rfl
  have hel:(eK qs).length=qs.length:=by simp[eK]
  clear ih hs hs' hg hg' hrd
  generalize eK qs=es at *
  generalize qs.length=n at *
  refine b7 _ _ _ _ _ _ fun g=>?_
  simp[af,ah,ad,ae,ab, *,bt,hx.idx,hy.idx,eqA,eqFs]
  exact hn
theorem Vb:limf env 110 [x,y]=some (aB true):=by
 refine az (fn:=Tryz.f110) (c:=bB) rfl (by kernel_rfl) (by kernel_rfl) (by kernel_rfl) (by kernel_rfl) ?_;refine eb _ _ _ _ fun g=>?_
 have hlp:=fun H (Q:AV→Heap→Prop) (hQ:Q (aB true) H)=>LZ hx hy hl hQ qs 0 rfl (by omega)
 have hel:(eK qs).length=qs.length:=by simp[eK]
 simp[af,ah,ad,ae,ab, *,cB,hx.r,hy.r]
 refine hlp _ _ (by simp)
end
theorem KW{us:List Clear}{qs:List Quota}{xu xq yu yq:AV}(gr:Int)(h1:Sl 3 (eg us) xu)(h2:Sl 3 (eg us) yu)(h3:Sl 5 (eK qs) xq)(h4:Sl 5 (eK qs) yq)(hul:us.length<1000000)(hql:qs.length<1000000):limf env 46 [.agg [xu,xq,aI gr],.agg [yu,yq,aI gr]]=some (aB true):=by
 have c1:=Vc h1 h2 hul
 have c2:=Vb h3 h4 hql
 refine az (fn:=Tryz.f46) (c:=s8) rfl (by kernel_rfl) (by kernel_rfl) (by kernel_rfl) (by kernel_rfl) ?_;refine zZ _ _ _ _ fun g=>?_
 have r1:=h1.r
 have r2:=h2.r
 have r3:=h3.r
 have r4:=h4.r
 clear h1 h2 h3 h4
 simp[af,ah,ad,ae,ab, *,tp]
section
variable{l m:List (Opn × AV)}{x y:AV}(hx:Sl 17 (bN l) x)(hy:Sl 17 (bN m) y)(he:opsOf l=opsOf m)(h1 : ∀p∈l,okO p)(h2 : ∀p∈m,okO p)(hl:l.length<1000000)
include hx hy he h1 h2 hl
theorem CQ{Q:AV→Heap→Prop}{H:Heap}(hQ:Q (aB true) H) : ∀(s:List (Opn × AV)) (k:Nat),l.drop k=s→k≤l.length→GoL env Tryz.f21 0 dH [(5,aI k),(1,y),(0,x)] H Q:=by
 intro s
 have hlen:m.length=l.length:=by have:=congrArg List.length he;simpa [opsOf] using this.symm
 induction s with
 | nil =>
  rintro k hs hk
  obtain rfl:=drop_nil hs hk
  have hel:(bN l).length=l.length:=by simp[bN]
  refine iJ _ _ _ _ _ fun g=>?_
  clear h1 h2
  simp[af,ah,ad,ae,ab, *,fy,hx.r]
 | cons p s ih =>
  rintro k hs hk
  obtain⟨hlt,hg,hs',hg'⟩:=drop_cons hs
  have hlt2:k<m.length:=by omega
  have e3:=IntWalk.i64_in ((k:Int)+1) (by omega)
  have hlt':(k:Int)<l.length:=by omega
  have hlt2':(k:Int)<m.length:=by omega
  have hn:=ih (k+1) hs' (by omega)
  have hp:=h1 p (hg ▸ List.getElem_mem hlt)
  have hq:=h2 m[k] (List.getElem_mem hlt2)
  have hee:m[k].1=p.1:=by
   have e1:(opsOf l)[k]?=some p.1:=by simp[opsOf,hg']
   have e2:(opsOf m)[k]?=some m[k].1:=by simp[opsOf,hlt2]
   rw[he,e2]at e1
   exact Option.some.inj e1
  have hrd2:(bN m)[k]?=some (encO m[k]):=by simp[bN,hlt2]
  have hrd1:(bN l)[k]?=some (encO p):=by simp[bN,hg']
  generalize m[k]=q at *
  obtain⟨⟨a_1,⟨a_2,a_3,a_4⟩,a_5,⟨⟨⟨a_6,a_7,a_8⟩,a_9⟩,a_10⟩,⟨⟨a_11,a_12,a_13⟩,a_14⟩,⟨a_15,a_16⟩,al⟩,z⟩:=p
  obtain⟨q1,z'⟩:=q
  simp only at hee
  subst hee
  obtain⟨hp1,hp2⟩:=hp
  obtain⟨hq1,_⟩:=hq
  simp only at hp1 hp2 hq1
  have hS:=QV a_1 a_2 a_3 a_4 a_5 a_6 a_7 a_8 a_9 a_10 a_11 a_12 a_13 a_14 a_15 a_16 a_1 a_2 a_3 a_4 a_5 a_6 a_7 a_8 a_9 a_10 a_11 a_12 a_13 a_14 a_15 a_16 hp1 hq1 (by omega) (by omega)
  have hsb:CR (⟨a_1,⟨a_2,a_3,a_4⟩,a_5,⟨⟨⟨a_6,a_7,a_8⟩,a_9⟩,a_10⟩,⟨⟨a_11,a_12,a_13⟩,a_14⟩,⟨a_15,a_16⟩,al⟩:Opn) ⟨a_1,⟨a_2,a_3,a_4⟩,a_5,⟨⟨⟨a_6,a_7,a_8⟩,a_9⟩,a_10⟩,⟨⟨a_11,a_12,a_13⟩,a_14⟩,⟨a_15,a_16⟩,al⟩=true:=by simp[CR]
  rw[hsb]at hS
  have hrr1 : ∀j n ag,dE (bN l) k j n ag=dE [.agg [a8 a_1,a8 a_2,a32 a_3,a8 a_4,aI a_5,a8 a_6,a32 a_7,a8 a_8,aI a_9,aI a_10,a8 a_11,a32 a_12,a8 a_13,aI a_14,a8 a_15,a32 a_16,z]] 0 j n ag:=fun j n ag=>by simp only[dE,hrd1];rfl
  have hrr2 : ∀j n ag,dE (bN m) k j n ag=dE [.agg [a8 a_1,a8 a_2,a32 a_3,a8 a_4,aI a_5,a8 a_6,a32 a_7,a8 a_8,aI a_9,aI a_10,a8 a_11,a32 a_12,a8 a_13,aI a_14,a8 a_15,a32 a_16,z']] 0 j n ag:=fun j n ag=>by simp only[dE,hrd2];rfl
  have hel:(bN l).length=l.length:=by simp[bN]
  have hem:(bN m).length=m.length:=by simp[bN]
  have ra:=hp1.r
  have rb:=hq1.r
  clear ih hs hs' hg hg' hrd1 hrd2 he h1 h2 hp1 hq1 hlen
  generalize bN l=el at *
  generalize bN m=em at *
  generalize l.length=nl at *
  generalize m.length=nm at *
  refine iJ _ _ _ _ _ fun g=>?_
  simp[af,ah,ad,ae,ab, *,fy,hx.r,hx.idx,hy.idx]
  exact hn
theorem Gw:limf env 21 [x,y]=some (aB true):=by
 refine az (fn:=Tryz.f21) (c:=ga) rfl (by kernel_rfl) (by kernel_rfl) (by kernel_rfl) (by kernel_rfl) ?_;refine n8 _ _ _ _ fun g=>?_
 have hlp:=fun H (Q:AV→Heap→Prop) (hQ:Q (aB true) H)=>CQ hx hy he h1 h2 hl hQ l 0 rfl (by omega)
 have hel:(bN l).length=l.length:=by simp[bN]
 have hem:(bN m).length=l.length:=by have:=congrArg List.length he;simp[opsOf]at this;simp[bN];omega
 clear h1 h2
 simp[af,ah,ad,ae,ab, *,jG,hx.r,hy.r]
 refine hlp _ _ (by simp)
end
section
variable{l:List (Opn × AV)}{x0:AV}(hx:Sl 17 (bN l) x0)(hall : ∀p∈l,okO p∧p.1.l.length<1000000)(hl:l.length<10000)
include hx hall hl
theorem GB:limf env 107 [x0]=some (aI (if (ji [] [] l).isSome then 0 else 8)):=by
 refine az (fn:=Tryz.f107) (c:=w9) rfl (by kernel_rfl) (by kernel_rfl) (by kernel_rfl) (by kernel_rfl) ?_;refine CG _ _ _ fun g=>?_
 obtain⟨y,H2,h1,rh,rm,hF2,hold,hm⟩:=Gb hx hall hl (H:=[]) Fr.nil
 clear hall
 simp[af,ah,ad,ae,ab, *,xf,hx.r]
 refine n9 (by kernel_rfl) h1 ?_
 cases hd:ji [] [] l with
 | none=>rw[hd]at hm;subst hm;simp
 | some q =>
  obtain⟨O,E⟩:=q
  rw[hd]at hm
  obtain⟨rfl,_⟩:=hm
  simp
end
end Go.Proofs.YtmkmimgokagimaaGreat
