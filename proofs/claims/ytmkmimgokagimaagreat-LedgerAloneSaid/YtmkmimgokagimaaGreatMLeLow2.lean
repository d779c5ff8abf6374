/-
  What is not at or below a label counts for nothing there: logs. No statement of a seat is proved here.
-/
import Derived.Test.YtmkmimgokagimaaGreatMLeAlone0
import Derived.Test.YtmkmimgokagimaaGreatMLeSer
import Derived.Test.YtmkmimgokagimaaGreatLeAdm0
set_option linter.unusedVariables false
set_option linter.unusedSimpArgs false
set_option linter.unusedSectionVars false
set_option linter.unnecessarySimpa false
set_option maxRecDepth 100000
namespace Go.Proofs.YtmkmimgokagimaaGreat
open Go.Ab
structure LowB (v:Lab) (b b':Book):Prop where
 us:b'.us=b.us
 gr:b'.gr=b.gr
 ses : ∀h:Han,leqL ⟨h.lv,h.cats⟩ v=true→sesD (cm h b'.ses)=sesD (cm h b.ses)
 use : ∀w:Lab,leqL w v=true→useK b' w=useK b w
 hist:opsOf b'.hist=(opsOf b.hist).filter (lowO v)
 is:(ji [] [] b.hist).isSome=true
section
variable{v:Lab}{b b':Book}(h:LowB v b b')(hn:b.hist.length≤100){us:List Clear}{qs:List Quota}{gr:Int}
include h hn
theorem xV{o:Opn}(ho:lowO v o=true):ky us qs gr b' o=ky us qs gr b o:=by
 have h1:=(EX h.hist hn h.is ho).1
 have h2:=h.use ⟨o.h.lv,o.h.cats⟩ ho
 unfold useK at h2
 unfold ky
 rw[h1,h2]
theorem A6(user:Int)(v1:UInt8)(v2:UInt32):uI b' qs user v1 v2=uI b qs user v1 v2:=by
 unfold uI
 rw[h.us,h.gr]
theorem JN{p p':Rcd × AV}(e:p'.1=p.1)(ho:jd v p=true)(his:pv p.1=true):tU us qs gr b' p'.1=tU us qs gr b p.1:=by
 rw[e]
 unfold tU
 unfold jd at ho
 by_cases k1:p.1.kind=1
 ·rw[if_pos k1,if_pos k1]
  have ho:leqL ⟨p.1.op.h.lv,p.1.op.h.cats⟩ v=true:=by
   rw[k1]at ho;simpa using ho
  have hs:mP b' p.1.op=mP b p.1.op:=h.ses _ ho
  have hu:ly b' p.1.op=ly b p.1.op:=h.use _ ho
  unfold EL
  rw[hs,hu,A6 h hn]
 ·rw[if_neg k1,if_neg k1]
  by_cases k2:p.1.kind=2
  ·rw[if_pos k2,if_pos k2]
   have ho:leqL ⟨p.1.op.h.lv,p.1.op.h.cats⟩ v=true:=by
    rw[k2]at ho;simpa using ho
   have hs:mP b' p.1.op=mP b p.1.op:=h.ses _ ho
   have hu:ly b' p.1.op=ly b p.1.op:=h.use _ ho
   unfold Ca
   rw[hs,hu,A6 h hn,xV h hn ho]
  ·rw[if_neg k2,if_neg k2]
   unfold EK
   rw[h.us,h.gr]
end
theorem Jz{us:List Clear}{qs:List Quota}{gr:Int}{b:Book}{r:Rcd}{y:AV}(hi:(ji [] [] b.hist).isSome=true)(k2:r.kind=2)(hf:tU us qs gr b r=true):(ji [] [] (doOp b r.op r.code y).hist).isSome=true:=by
 show(ji [] [] (if r.code=0 then b.hist++[(r.op,y)] else b.hist)).isSome=true
 split
 ·rename_i hc
  unfold tU at hf
  rw[if_neg (by rw[k2];decide),if_pos k2]at hf
  simp only[Ca,Bool.and_eq_true,decide_eq_true_eq]at hf
  have hv:=hf.2.2.2.2
  rw[hc]at hv
  refine Dw (p:=(r.op,y)) ?_
  unfold ky at hv
  split at hv
  ·rename_i h1;exact absurd hv.symm h1
  ·rename_i h1
   exact Decidable.not_not.1 h1
 ·exact hi
theorem vJ(b:Book)(h h':Han)(s:Ses):sesD (cm h' (setK h s.av b.ses))=if h'=h then s else sesD (cm h' b.ses):=by
 split
 ·rename_i e;subst e;rw[nw,BC]
 ·rename_i e;rw[mu e]
theorem pj(v w:Lab)(u:Use)(l:List (Lab × AV)):useD (cm w (setK v u.av l))=if w=v then u else useD (cm w l):=by
 split
 ·rename_i e;subst e;rw[nw,HI]
 ·rename_i e;rw[mu e]
section
variable{v:Lab}{b b':Book}(h:LowB v b b'){us:List Clear}{qs:List Quota}{gr:Int}
include h
theorem LowB.low{p p':Rcd × AV}(e:p'.1=p.1)(ho:jd v p=true)(hf:tU us qs gr b p.1=true):LowB v (doR b p) (doR b' p'):=by
 unfold doR
 rw[e]
 unfold jd at ho
 by_cases k1:p.1.kind=1
 ·rw[if_pos k1,if_pos k1]
  have ho:leqL ⟨p.1.op.h.lv,p.1.op.h.cats⟩ v=true:=by
   rw[k1]at ho;simpa using ho
  have hu:ly b' p.1.op=ly b p.1.op:=h.use _ ho
  refine⟨h.us,h.gr,fun k hk=>?_,fun w hw=>?_,h.hist,h.is⟩
  ·show sesD (cm k (setK p.1.op.h (Ses.av ⟨true,p.1.user,0⟩) b'.ses))=sesD (cm k (setK p.1.op.h (Ses.av ⟨true,p.1.user,0⟩) b.ses))
   rw[vJ,vJ,h.ses k hk]
  ·show useD (cm w (setK ⟨p.1.op.h.lv,p.1.op.h.cats⟩ (Use.av { ly b' p.1.op with opens:=IntKind.i64.wrap ((ly b' p.1.op).opens+1)}) b'.used))=useD (cm w (setK ⟨p.1.op.h.lv,p.1.op.h.cats⟩ (Use.av { ly b p.1.op with opens:=IntKind.i64.wrap ((ly b p.1.op).opens+1)}) b.used))
   have:=h.use w hw
   unfold useK at this
   rw[pj,pj,this,hu]
 ·rw[if_neg k1,if_neg k1]
  by_cases k2:p.1.kind=2
  ·rw[if_pos k2,if_pos k2]
   have ho:leqL ⟨p.1.op.h.lv,p.1.op.h.cats⟩ v=true:=by
    rw[k2]at ho;simpa using ho
   have hu:ly b' p.1.op=ly b p.1.op:=h.use _ ho
   have hs:mP b' p.1.op=mP b p.1.op:=h.ses _ ho
   have hd:zk b' p.1.op p.1.code=zk b p.1.op p.1.code:=by unfold zk;rw[hu]
   refine⟨h.us,h.gr,fun k hk=>?_,fun w hw=>?_,?_,Jz h.is k2 hf⟩
   ·show sesD (cm k (setK p.1.op.h (Ses.av { mP b' p.1.op with s:=IntKind.i64.wrap ((mP b' p.1.op).s+1)}) b'.ses))=sesD (cm k (setK p.1.op.h (Ses.av { mP b p.1.op with s:=IntKind.i64.wrap ((mP b p.1.op).s+1)}) b.ses))
    rw[vJ,vJ,h.ses k hk,hs]
   ·show useD (cm w (setK ⟨p.1.op.h.lv,p.1.op.h.cats⟩ (Use.av (zk b' p.1.op p.1.code)) b'.used))=useD (cm w (setK ⟨p.1.op.h.lv,p.1.op.h.cats⟩ (Use.av (zk b p.1.op p.1.code)) b.used))
    have:=h.use w hw
    unfold useK at this
    rw[pj,pj,this,hd]
   ·show opsOf (if p.1.code=0 then b'.hist++[(p.1.op,tC p'.2)] else b'.hist)=(opsOf (if p.1.code=0 then b.hist++[(p.1.op,tC p.2)] else b.hist)).filter (lowO v)
    split
    ·rw[ju,ju,List.filter_append,h.hist]
     have:lowO v p.1.op=true:=ho
     simp[this]
    ·exact h.hist
  ·rw[if_neg k2,if_neg k2]
   refine⟨?_,?_,h.ses,h.use,h.hist,h.is⟩
   ·show b'.us.set _ _=b.us.set _ _
    rw[h.us]
   ·show IntKind.i64.wrap (b'.gr - 1)=IntKind.i64.wrap (b.gr - 1)
    rw[h.gr]
theorem LowB.high{p:Rcd × AV}(ho : ¬jd v p=true)(his:pv p.1=true)(hf:tU us qs gr b p.1=true):LowB v (doR b p) b':=by
 unfold jd at ho
 simp only[Bool.or_eq_true,decide_eq_true_eq,not_or]at ho
 obtain⟨k3,hl⟩:=ho
 have hne : ∀h:Han,leqL ⟨h.lv,h.cats⟩ v=true→h≠p.1.op.h:=fun h hk e=>hl (by rw[←e];exact hk)
 have hne2 : ∀w:Lab,leqL w v=true→w≠⟨p.1.op.h.lv,p.1.op.h.cats⟩:=fun w hk e=>hl (by rw[←e];exact hk)
 unfold doR
 by_cases k1:p.1.kind=1
 ·rw[if_pos k1]
  refine⟨h.us,h.gr,fun k hk=>?_,fun w hw=>?_,h.hist,h.is⟩
  ·show _=sesD (cm k (setK p.1.op.h (Ses.av ⟨true,p.1.user,0⟩) b.ses))
   rw[vJ,if_neg (hne k hk)]
   exact h.ses k hk
  ·show _=useD (cm w (setK ⟨p.1.op.h.lv,p.1.op.h.cats⟩ (Use.av { ly b p.1.op with opens:=IntKind.i64.wrap ((ly b p.1.op).opens+1)}) b.used))
   rw[pj,if_neg (hne2 w hw)]
   exact h.use w hw
 ·rw[if_neg k1]
  by_cases k2:p.1.kind=2
  ·rw[if_pos k2]
   refine⟨h.us,h.gr,fun k hk=>?_,fun w hw=>?_,?_,Jz h.is k2 hf⟩
   ·show _=sesD (cm k (setK p.1.op.h (Ses.av { mP b p.1.op with s:=IntKind.i64.wrap ((mP b p.1.op).s+1)}) b.ses))
    rw[vJ,if_neg (hne k hk)]
    exact h.ses k hk
   ·show _=useD (cm w (setK ⟨p.1.op.h.lv,p.1.op.h.cats⟩ (Use.av (zk b p.1.op p.1.code)) b.used))
    rw[pj,if_neg (hne2 w hw)]
    exact h.use w hw
   ·show _=(opsOf (if p.1.code=0 then b.hist++[(p.1.op,tC p.2)] else b.hist)).filter (lowO v)
    split
    ·rw[ju,List.filter_append,h.hist]
     have : ¬lowO v p.1.op=true:=hl
     simp[this]
    ·exact h.hist
  ·exfalso
   unfold pv at his
   rw[if_neg k1,if_neg k2,if_neg k3]at his
   cases his
end
theorem JU(b:Book)(p:Rcd × AV):(doR b p).hist.length≤b.hist.length+1:=by
 unfold doR
 split
 ·exact Nat.le_succ _
 ·split
  ·show(if p.1.code=0 then b.hist++[(p.1.op,tC p.2)] else b.hist).length≤_
   split
   ·simp
   ·omega
  ·exact Nat.le_succ _
theorem Eo{v:Lab}{us:List Clear}{qs:List Quota}{gr:Int} : ∀ {l l':List (Rcd × AV)} {b b' B:Book},LowB v b b'→rcs l'=rcs (l.filter (jd v))→b.hist.length+l.length≤100→ofB us qs gr b l=some B →∃B',ofB us qs gr b' l'=some B'∧LowB v B B'∧B.hist.length≤b.hist.length+l.length
 | [],l',b,b',B,h,hl,hn,he=>by
  have e:l'=[]:=by
   have:=congrArg List.length hl
   simpa [rcs] using this
  subst e
  simp only[ofB,Option.some.injEq]at he
  subst he
  exact⟨b',rfl,h,by simp⟩
 | p :: l,l',b,b',B,h,hl,hn,he=>by
  unfold ofB at he
  split at he
  ·rename_i hc
   simp only[List.length_cons]at hn
   have hh:=JU b p
   rw[List.filter_cons]at hl
   by_cases ho:jd v p=true
   ·rw[if_pos ho]at hl
    cases l' with
    | nil=>simp[rcs]at hl
    | cons p' l' =>
     have hl1:p'.1 :: rcs l'=p.1 :: rcs (l.filter (jd v)):=hl
     injection hl1 with e1 e2
     have hf':=JN (us:=us) (qs:=qs) (gr:=gr) h (by omega) e1 ho hc.1
     obtain⟨B',g1,g2,g3⟩:=Eo (h.low (us:=us) (qs:=qs) (gr:=gr) e1 ho hc.2) e2 (by omega) he
     refine⟨B',?_,g2,by simp;omega⟩
     unfold ofB
     rw[if_pos ⟨by rw[e1];exact hc.1,by rw[hf'];exact hc.2⟩]
     exact g1
   ·rw[if_neg ho]at hl
    obtain⟨B',g1,g2,g3⟩:=Eo (h.high (us:=us) (qs:=qs) (gr:=gr) ho hc.1 hc.2) hl (by omega) he
    exact⟨B',g1,g2,by simp;omega⟩
  ·cases he
theorem Oc{v:Lab}{us:List Clear}{qs:List Quota}{gr:Int}{l l':List (Rcd × AV)}{b:Book}(ho:ofA us qs gr l=some b)(hl:rcs l'=rcs (l.filter (jd v)))(hn:l.length≤100) : ∃b',ofA us qs gr l'=some b'∧LowB v b b'∧b.hist.length≤100:=by
 obtain⟨h1,h2,h3⟩:=Ob ho
 have h0:LowB v (uZ us gr) (uZ us gr):=⟨rfl,rfl,fun _ _=>rfl,fun _ _=>rfl,rfl,rfl⟩
 obtain⟨b',g1,g2,g3⟩:=Eo h0 hl (by simpa [uZ] using hn) h3
 have hlen:l'.length≤2048:=by
  have e:=congrArg List.length hl
  have e2:=List.length_filter_le (jd v) l
  simp at e
  omega
 refine⟨b',?_,g2,?_⟩
 ·unfold ofA
  rw[if_pos ⟨h1,hlen⟩]
  exact g1
 ·have e0:(uZ us gr).hist.length=0:=rfl
  omega
end Go.Proofs.YtmkmimgokagimaaGreat
set_option maxHeartbeats 4000000
namespace Go.Proofs.YtmkmimgokagimaaGreat
open Go.Ab
attribute [local simp] bm aP aG bh bg keep thr bF aY bf dw dv cV bG aC cd List.take_of_length_le
theorem NZ(l:List (Rcd × AV)):rcs (l.map twR)=rcs l:=by simp[rcs,twR]
theorem II(v:Lab)(l:List (Rcd × AV)):rcs ((l.map twR).filter (jd v))=rcs (l.filter (jd v)):=by
 induction l with
 | nil=>rfl
 | cons p l ih =>
  rw[List.map_cons,List.filter_cons,List.filter_cons]
  have:jd v (twR p)=jd v p:=rfl
  rw[this]
  split
  ·show p.1 :: rcs _=p.1 :: rcs _
   rw[ih]
  ·exact ih
theorem Ge(h:Han)(sr:Int) : ∀ {l m:List (Rcd × AV)},rcs l=rcs m→m0 h sr l=m0 h sr m
 | [],[],_=>rfl
 | [],q :: m,e=>by simp[rcs]at e
 | p :: l,[],e=>by simp[rcs]at e
 | p :: l,q :: m,e=>by
  have e':p.1 :: rcs l=q.1 :: rcs m:=e
  injection e' with e1 e2
  have ih:=Ge h sr e2
  unfold m0 at ih ⊢
  rw[List.find?_cons,List.find?_cons]
  have:isOp h sr p=isOp h sr q:=by unfold isOp;rw[e1]
  rw[this]
  cases isOp h sr q with
  | true=>simp only[e1]
  | false=>exact ih
theorem L4{v:Lab}{h:Han}(hv:leqL ⟨h.lv,h.cats⟩ v=true)(sr:Int)(l:List (Rcd × AV)):m0 h sr (l.filter (jd v))=m0 h sr l:=by
 unfold m0
 have:(l.filter (jd v)).find? (isOp h sr)=l.find? (isOp h sr):=by
  induction l with
  | nil=>rfl
  | cons p l ih =>
   rw[List.filter_cons,List.find?_cons]
   cases hi:isOp h sr p with
   | true =>
    have ho:jd v p=true:=by
     unfold isOp at hi
     simp only[Bool.and_eq_true,decide_eq_true_eq]at hi
     unfold jd
     rw[hi.2.1,hv,Bool.or_true]
    rw[if_pos ho,List.find?_cons,hi]
   | false =>
    split
    ·rw[List.find?_cons,hi];exact ih
    ·exact ih
 rw[this]
section
variable{us:List Clear}{qs:List Quota}{gr:Int}{l l':List (Rcd × AV)}{b b':Book}{v:Lab}(ho:ofA us qs gr l=some b)(ho':ofA us qs gr l'=some b')(h:LowB v b b')(hl:rcs l'=rcs (l.filter (jd v)))(hn:b.hist.length≤100)
include ho ho' h hl hn
theorem KQ{k:Han}(hk:leqL ⟨k.lv,k.cats⟩ v=true):sesA us qs gr l' k=sesA us qs gr l k:=by
 unfold sesA
 rw[ho,ho']
 dsimp only
 rw[h.ses k hk]
theorem J0{k:Han}(hk:leqL ⟨k.lv,k.cats⟩ v=true)(sr:Int):zA us qs gr l' k sr=zA us qs gr l k sr:=by
 unfold zA
 rw[ho,ho']
 dsimp only
 rw[Ge k sr (show rcs (l'.map twR)=rcs ((l.map twR).filter (jd v)) by rw[NZ,hl,II]),L4 hk]
theorem HH(w:Lab)(hw:leqL w v=true):ye us qs gr l' w.lv w.cats=ye us qs gr l w.lv w.cats:=by
 unfold ye
 rw[ho,ho']
 dsimp only
 have:=h.use w hw
 unfold useK at this
 unfold HF
 rw[this]
theorem KA{o:Opn}(hv:lowO v o=true):verA us qs gr l' o=verA us qs gr l o:=by
 unfold verA
 rw[ho,ho']
 dsimp only
 rw[xV h hn hv]
end
end Go.Proofs.YtmkmimgokagimaaGreat
