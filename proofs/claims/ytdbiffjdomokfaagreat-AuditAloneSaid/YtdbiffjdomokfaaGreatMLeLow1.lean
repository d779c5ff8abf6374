/-
  Serials: what stays true from record to record. No statement of a seat is proved here.
-/
import Derived.Test.YtdbiffjdomokfaaGreatMAuAll2
import Derived.Test.YtdbiffjdomokfaaGreatMLeLow0
set_option linter.unusedVariables false
set_option linter.unusedSimpArgs false
set_option linter.unusedSectionVars false
set_option linter.unnecessarySimpa false
set_option maxRecDepth 100000
namespace Go.Proofs.YtdbiffjdomokfaaGreat
open Go.Ab
def ML(b:fF)(v:jz):vR:=oz (bZ v b.used)
def nQ(h:vU)(l:List (gA × AV)):Int:=l.foldl (fun s p=>if p.1.kind=2∧p.1.op.h=h then p.1.op.serial else s) 0
theorem EN(h:vU)(l:List (gA × AV))(p:gA × AV):nQ h (l++[p])=if p.1.kind=2∧p.1.op.h=h then p.1.op.serial else nQ h l:=by
 simp[nQ]
structure YA (l:List (gA × AV)) (b:fF):Prop where
 ser : ∀h:vU,(oJ (bZ h b.ses)).s=nQ h l∧((oJ (bZ h b.ses)).o=false→nQ h l=0)
 up : ∀h:vU,0≤nQ h l∧nQ h l<16777216 ∧∀p∈l,p.1.kind=2→p.1.op.h=h→p.1.op.serial≤nQ h l
section
variable{us0:List Clear}{qs:List bu}{gr0:Int}{l:List (gA × AV)}{b:fF}{p:gA × AV}(h:YA l b)(his:m4 p.1=true)
include h his
theorem YA.two(k2:p.1.kind=2)(hf:yY us0 qs gr0 b p.1=true):YA (l++[p]) (qy b p.1.op p.1.code (q0 p.2))∧p.1.op.serial=nQ p.1.op.h l+1:=by
 simp only[yY,Bool.and_eq_true,decide_eq_true_eq]at hf
 obtain⟨ho,_,hsr,hlt,hcode⟩:=hf
 have hop:mT p.1.op=true:=by
  unfold m4 at his
  rw[if_neg (by rw[k2];decide),if_pos k2]at his
  simp only[Bool.and_eq_true]at his
  exact his.2.1
 have hser:1≤p.1.op.serial∧p.1.op.serial<16777216:=by
  simp only[mT,Bool.and_eq_true,decide_eq_true_eq]at hop
  exact⟨hop.2.1,hop.2.2.1⟩
 have hs0:=(h.ser p.1.op.h).1
 have hup:=h.up p.1.op.h
 have hsw:p.1.op.serial=nQ p.1.op.h l+1:=by
  rw[hsr]
  show IntKind.i64.wrap ((oJ (bZ p.1.op.h b.ses)).s+1)=_
  rw[hs0]
  exact IntWalk.i64_in _ (by omega)
 refine⟨?_,hsw⟩
 have hls : ∀h':vU,nQ h' (l++[p])=if h'=p.1.op.h then p.1.op.serial else nQ h' l:=fun h'=>by
  rw[EN]
  by_cases e:h'=p.1.op.h
  ·subst e;rw[if_pos ⟨k2,rfl⟩,if_pos rfl]
  ·rw[if_neg (fun hh=>e hh.2.symm),if_neg e]
 refine⟨fun h'=>?_,fun h'=>?_⟩
 ·rw[hls]
  show(oJ (bZ h' (fJ p.1.op.h (vS.av { jZ b p.1.op with s:=IntKind.i64.wrap ((jZ b p.1.op).s+1)}) b.ses))).s=_∧((oJ (bZ h' (fJ p.1.op.h (vS.av { jZ b p.1.op with s:=IntKind.i64.wrap ((jZ b p.1.op).s+1)}) b.ses))).o=false→_)
  by_cases e:h'=p.1.op.h
  ·subst e
   rw[oP,Bk,if_pos rfl]
   refine⟨hsr.symm,fun hh=>?_⟩
   simp only at hh
   rw[hh]at ho
   cases ho
  ·rw[m7 e,if_neg e]
   exact h.ser h'
 ·rw[hls]
  by_cases e:h'=p.1.op.h
  ·subst e
   rw[if_pos rfl]
   refine⟨by omega,by omega,fun q hq hk he=>?_⟩
   rcases List.mem_append.1 hq with hq | hq
   ·have:=hup.2.2 q hq hk he;omega
   ·rw[List.mem_singleton]at hq;subst hq;exact Int.le_refl _
  ·rw[if_neg e]
   refine⟨(h.up h').1,(h.up h').2.1,fun q hq hk he=>?_⟩
   rcases List.mem_append.1 hq with hq | hq
   ·exact(h.up h').2.2 q hq hk he
   ·rw[List.mem_singleton]at hq;subst hq;exact absurd he.symm e
theorem YA.step(hf:qv us0 qs gr0 b p.1=true):YA (l++[p]) (EZ b p):=by
 unfold qv at hf
 unfold EZ
 have hother:p.1.kind≠2→(∀h',nQ h' (l++[p])=nQ h' l) ∧∀h':vU,0≤nQ h' l∧nQ h' l<16777216 ∧∀q∈l++[p],q.1.kind=2→q.1.op.h=h'→q.1.op.serial≤nQ h' l:=by
  intro k2
  refine⟨fun h'=>by rw[EN,if_neg (fun hh=>k2 hh.1)],fun h'=>⟨(h.up h').1,(h.up h').2.1,fun q hq hk he=>?_⟩⟩
  rcases List.mem_append.1 hq with hq | hq
  ·exact(h.up h').2.2 q hq hk he
  ·rw[List.mem_singleton]at hq;subst hq;exact absurd hk k2
 by_cases k1:p.1.kind=1
 ·rw[if_pos k1]at hf ⊢
  obtain⟨hls,hup⟩:=hother (by rw[k1];decide)
  simp only[CI,Bool.and_eq_true,Bool.not_eq_true']at hf
  refine⟨fun h'=>?_,fun h'=>by rw[hls];exact hup h'⟩
  rw[hls]
  show(oJ (bZ h' (fJ p.1.op.h (vS.av ⟨true,p.1.user,0⟩) b.ses))).s=nQ h' l∧((oJ (bZ h' (fJ p.1.op.h (vS.av ⟨true,p.1.user,0⟩) b.ses))).o=false→nQ h' l=0)
  by_cases e:h'=p.1.op.h
  ·subst e
   rw[oP,Bk]
   exact⟨((h.ser p.1.op.h).2 hf.1).symm,fun h=>by cases h⟩
  ·rw[m7 e]
   exact h.ser h'
 ·rw[if_neg k1]at hf ⊢
  by_cases k2:p.1.kind=2
  ·rw[if_pos k2]at hf ⊢
   exact(h.two his k2 hf).1
  ·rw[if_neg k2]
   obtain⟨hls,hup⟩:=hother k2
   exact⟨fun h'=>by rw[hls];exact h.ser h',fun h'=>by rw[hls];exact hup h'⟩
end
section
variable{us0:List Clear}{qs:List bu}{gr0:Int}{l:List (gA × AV)}{b:fF}(ho:yE us0 qs gr0 l=some b)
include ho
theorem QE:DI us0 qs gr0=true∧l.length≤2048∧Ps us0 qs gr0 (rB us0 gr0) l=some b:=by
 unfold yE at ho
 split at ho
 ·rename_i h;exact⟨h.1,h.2,ho⟩
 ·cases ho
end
end Go.Proofs.YtdbiffjdomokfaaGreat
namespace Go.Proofs.YtdbiffjdomokfaaGreat
open Go.Ab
structure Ed (v:jz) (b b':fF):Prop where
 us:b'.us=b.us
 gr:b'.gr=b.gr
 ses : ∀h:vU,nP ⟨h.lv,h.cats⟩ v=true→oJ (bZ h b'.ses)=oJ (bZ h b.ses)
 use : ∀w:jz,nP w v=true→ML b' w=ML b w
 dZ:opsOf b'.dZ=(opsOf b.dZ).filter (pk v)
 is:(im [] [] b.dZ).isSome=true
section
variable{v:jz}{b b':fF}(h:Ed v b b')(hn:b.dZ.length≤100){us:List Clear}{qs:List bu}{gr:Int}
include h hn
theorem Gr{o:bG}(ho:pk v o=true):o9 us qs gr b' o=o9 us qs gr b o:=by
 have h1:=(Ic h.dZ hn h.is ho).1
 have h2:=h.use ⟨o.h.lv,o.h.cats⟩ ho
 unfold ML at h2
 unfold o9
 rw[h1,h2]
theorem Cg(user:Int)(v1:UInt8)(v2:UInt32):tA b' qs user v1 v2=tA b qs user v1 v2:=by
 unfold tA
 rw[h.us,h.gr]
theorem Mc{p p':gA × AV}(e:p'.1=p.1)(ho:cN v p=true)(his:m4 p.1=true):qv us qs gr b' p'.1=qv us qs gr b p.1:=by
 rw[e]
 unfold qv
 unfold cN at ho
 by_cases k1:p.1.kind=1
 ·rw[if_pos k1,if_pos k1]
  have ho:nP ⟨p.1.op.h.lv,p.1.op.h.cats⟩ v=true:=by
   rw[k1]at ho;simpa using ho
  have hs:jZ b' p.1.op=jZ b p.1.op:=h.ses _ ho
  have hu:jf b' p.1.op=jf b p.1.op:=h.use _ ho
  unfold CI
  rw[hs,hu,Cg h hn]
 ·rw[if_neg k1,if_neg k1]
  by_cases k2:p.1.kind=2
  ·rw[if_pos k2,if_pos k2]
   have ho:nP ⟨p.1.op.h.lv,p.1.op.h.cats⟩ v=true:=by
    rw[k2]at ho;simpa using ho
   have hs:jZ b' p.1.op=jZ b p.1.op:=h.ses _ ho
   have hu:jf b' p.1.op=jf b p.1.op:=h.use _ ho
   unfold yY
   rw[hs,hu,Cg h hn,Gr h hn ho]
  ·rw[if_neg k2,if_neg k2]
   unfold CH
   rw[h.us,h.gr]
end
theorem KI{us:List Clear}{qs:List bu}{gr:Int}{b:fF}{r:gA}{y:AV}(hi:(im [] [] b.dZ).isSome=true)(k2:r.kind=2)(hf:qv us qs gr b r=true):(im [] [] (qy b r.op r.code y).dZ).isSome=true:=by
 show(im [] [] (if r.code=0 then b.dZ++[(r.op,y)] else b.dZ)).isSome=true
 split
 ·rename_i hc
  unfold qv at hf
  rw[if_neg (by rw[k2];decide),if_pos k2]at hf
  simp only[yY,Bool.and_eq_true,decide_eq_true_eq]at hf
  have hv:=hf.2.2.2.2
  rw[hc]at hv
  refine FU (p:=(r.op,y)) ?_
  unfold o9 at hv
  split at hv
  ·rename_i h1;exact absurd hv.symm h1
  ·rename_i h1
   exact Decidable.not_not.1 h1
 ·exact hi
theorem wa(b:fF)(h h':vU)(s:vS):oJ (bZ h' (fJ h s.av b.ses))=if h'=h then s else oJ (bZ h' b.ses):=by
 split
 ·rename_i e;subst e;rw[oP,Bk]
 ·rename_i e;rw[m7 e]
theorem p5(v w:jz)(u:vR)(l:List (jz × AV)):oz (bZ w (fJ v u.av l))=if w=v then u else oz (bZ w l):=by
 split
 ·rename_i e;subst e;rw[oP,Ka]
 ·rename_i e;rw[m7 e]
section
variable{v:jz}{b b':fF}(h:Ed v b b'){us:List Clear}{qs:List bu}{gr:Int}
include h
theorem Ed.low{p p':gA × AV}(e:p'.1=p.1)(ho:cN v p=true)(hf:qv us qs gr b p.1=true):Ed v (EZ b p) (EZ b' p'):=by
 unfold EZ
 rw[e]
 unfold cN at ho
 by_cases k1:p.1.kind=1
 ·rw[if_pos k1,if_pos k1]
  have ho:nP ⟨p.1.op.h.lv,p.1.op.h.cats⟩ v=true:=by
   rw[k1]at ho;simpa using ho
  have hu:jf b' p.1.op=jf b p.1.op:=h.use _ ho
  refine⟨h.us,h.gr,fun k hk=>?_,fun w hw=>?_,h.dZ,h.is⟩
  ·show oJ (bZ k (fJ p.1.op.h (vS.av ⟨true,p.1.user,0⟩) b'.ses))=oJ (bZ k (fJ p.1.op.h (vS.av ⟨true,p.1.user,0⟩) b.ses))
   rw[wa,wa,h.ses k hk]
  ·show oz (bZ w (fJ ⟨p.1.op.h.lv,p.1.op.h.cats⟩ (vR.av { jf b' p.1.op with opens:=IntKind.i64.wrap ((jf b' p.1.op).opens+1)}) b'.used))=oz (bZ w (fJ ⟨p.1.op.h.lv,p.1.op.h.cats⟩ (vR.av { jf b p.1.op with opens:=IntKind.i64.wrap ((jf b p.1.op).opens+1)}) b.used))
   have:=h.use w hw
   unfold ML at this
   rw[p5,p5,this,hu]
 ·rw[if_neg k1,if_neg k1]
  by_cases k2:p.1.kind=2
  ·rw[if_pos k2,if_pos k2]
   have ho:nP ⟨p.1.op.h.lv,p.1.op.h.cats⟩ v=true:=by
    rw[k2]at ho;simpa using ho
   have hu:jf b' p.1.op=jf b p.1.op:=h.use _ ho
   have hs:jZ b' p.1.op=jZ b p.1.op:=h.ses _ ho
   have hd:vu b' p.1.op p.1.code=vu b p.1.op p.1.code:=by unfold vu;rw[hu]
   refine⟨h.us,h.gr,fun k hk=>?_,fun w hw=>?_,?_,KI h.is k2 hf⟩
   ·show oJ (bZ k (fJ p.1.op.h (vS.av { jZ b' p.1.op with s:=IntKind.i64.wrap ((jZ b' p.1.op).s+1)}) b'.ses))=oJ (bZ k (fJ p.1.op.h (vS.av { jZ b p.1.op with s:=IntKind.i64.wrap ((jZ b p.1.op).s+1)}) b.ses))
    rw[wa,wa,h.ses k hk,hs]
   ·show oz (bZ w (fJ ⟨p.1.op.h.lv,p.1.op.h.cats⟩ (vR.av (vu b' p.1.op p.1.code)) b'.used))=oz (bZ w (fJ ⟨p.1.op.h.lv,p.1.op.h.cats⟩ (vR.av (vu b p.1.op p.1.code)) b.used))
    have:=h.use w hw
    unfold ML at this
    rw[p5,p5,this,hd]
   ·show opsOf (if p.1.code=0 then b'.dZ++[(p.1.op,q0 p'.2)] else b'.dZ)=(opsOf (if p.1.code=0 then b.dZ++[(p.1.op,q0 p.2)] else b.dZ)).filter (pk v)
    split
    ·rw[kr,kr,List.filter_append,h.dZ]
     have:pk v p.1.op=true:=ho
     simp[this]
    ·exact h.dZ
  ·rw[if_neg k2,if_neg k2]
   refine⟨?_,?_,h.ses,h.use,h.dZ,h.is⟩
   ·show b'.us.set _ _=b.us.set _ _
    rw[h.us]
   ·show IntKind.i64.wrap (b'.gr - 1)=IntKind.i64.wrap (b.gr - 1)
    rw[h.gr]
theorem Ed.high{p:gA × AV}(ho : ¬cN v p=true)(his:m4 p.1=true)(hf:qv us qs gr b p.1=true):Ed v (EZ b p) b':=by
 unfold cN at ho
 simp only[Bool.or_eq_true,decide_eq_true_eq,not_or]at ho
 obtain⟨k3,hl⟩:=ho
 have hne : ∀h:vU,nP ⟨h.lv,h.cats⟩ v=true→h≠p.1.op.h:=fun h hk e=>hl (by rw[←e];exact hk)
 have hne2 : ∀w:jz,nP w v=true→w≠⟨p.1.op.h.lv,p.1.op.h.cats⟩:=fun w hk e=>hl (by rw[←e];exact hk)
 unfold EZ
 by_cases k1:p.1.kind=1
 ·rw[if_pos k1]
  refine⟨h.us,h.gr,fun k hk=>?_,fun w hw=>?_,h.dZ,h.is⟩
  ·show _=oJ (bZ k (fJ p.1.op.h (vS.av ⟨true,p.1.user,0⟩) b.ses))
   rw[wa,if_neg (hne k hk)]
   exact h.ses k hk
  ·show _=oz (bZ w (fJ ⟨p.1.op.h.lv,p.1.op.h.cats⟩ (vR.av { jf b p.1.op with opens:=IntKind.i64.wrap ((jf b p.1.op).opens+1)}) b.used))
   rw[p5,if_neg (hne2 w hw)]
   exact h.use w hw
 ·rw[if_neg k1]
  by_cases k2:p.1.kind=2
  ·rw[if_pos k2]
   refine⟨h.us,h.gr,fun k hk=>?_,fun w hw=>?_,?_,KI h.is k2 hf⟩
   ·show _=oJ (bZ k (fJ p.1.op.h (vS.av { jZ b p.1.op with s:=IntKind.i64.wrap ((jZ b p.1.op).s+1)}) b.ses))
    rw[wa,if_neg (hne k hk)]
    exact h.ses k hk
   ·show _=oz (bZ w (fJ ⟨p.1.op.h.lv,p.1.op.h.cats⟩ (vR.av (vu b p.1.op p.1.code)) b.used))
    rw[p5,if_neg (hne2 w hw)]
    exact h.use w hw
   ·show _=(opsOf (if p.1.code=0 then b.dZ++[(p.1.op,q0 p.2)] else b.dZ)).filter (pk v)
    split
    ·rw[kr,List.filter_append,h.dZ]
     have : ¬pk v p.1.op=true:=hl
     simp[this]
    ·exact h.dZ
  ·exfalso
   unfold m4 at his
   rw[if_neg k1,if_neg k2,if_neg k3]at his
   cases his
end
theorem Mf(b:fF)(p:gA × AV):(EZ b p).dZ.length≤b.dZ.length+1:=by
 unfold EZ
 split
 ·exact Nat.le_succ _
 ·split
  ·show(if p.1.code=0 then b.dZ++[(p.1.op,q0 p.2)] else b.dZ).length≤_
   split
   ·simp
   ·omega
  ·exact Nat.le_succ _
theorem Fv{v:jz}{us:List Clear}{qs:List bu}{gr:Int} : ∀ {l l':List (gA × AV)} {b b' B:fF},Ed v b b'→Ly l'=Ly (l.filter (cN v))→b.dZ.length+l.length≤100→Ps us qs gr b l=some B →∃B',Ps us qs gr b' l'=some B'∧Ed v B B'∧B.dZ.length≤b.dZ.length+l.length
 | [],l',b,b',B,h,hl,hn,he=>by
  have e:l'=[]:=by
   have:=congrArg List.length hl
   simpa [Ly] using this
  subst e
  simp only[Ps,Option.some.injEq]at he
  subst he
  exact⟨b',rfl,h,by simp⟩
 | p :: l,l',b,b',B,h,hl,hn,he=>by
  unfold Ps at he
  split at he
  ·rename_i hc
   simp only[List.length_cons]at hn
   have hh:=Mf b p
   rw[List.filter_cons]at hl
   by_cases ho:cN v p=true
   ·rw[if_pos ho]at hl
    cases l' with
    | nil=>simp[Ly]at hl
    | cons p' l' =>
     have hl1:p'.1 :: Ly l'=p.1 :: Ly (l.filter (cN v)):=hl
     injection hl1 with e1 e2
     have hf':=Mc (us:=us) (qs:=qs) (gr:=gr) h (by omega) e1 ho hc.1
     obtain⟨B',g1,g2,g3⟩:=Fv (h.low (us:=us) (qs:=qs) (gr:=gr) e1 ho hc.2) e2 (by omega) he
     refine⟨B',?_,g2,by simp;omega⟩
     unfold Ps
     rw[if_pos ⟨by rw[e1];exact hc.1,by rw[hf'];exact hc.2⟩]
     exact g1
   ·rw[if_neg ho]at hl
    obtain⟨B',g1,g2,g3⟩:=Fv (h.high (us:=us) (qs:=qs) (gr:=gr) ho hc.1 hc.2) hl (by omega) he
    exact⟨B',g1,g2,by simp;omega⟩
  ·cases he
theorem QF{v:jz}{us:List Clear}{qs:List bu}{gr:Int}{l l':List (gA × AV)}{b:fF}(ho:yE us qs gr l=some b)(hl:Ly l'=Ly (l.filter (cN v)))(hn:l.length≤100) : ∃b',yE us qs gr l'=some b'∧Ed v b b'∧b.dZ.length≤100:=by
 obtain⟨h1,h2,h3⟩:=QE ho
 have h0:Ed v (rB us gr) (rB us gr):=⟨rfl,rfl,fun _ _=>rfl,fun _ _=>rfl,rfl,rfl⟩
 obtain⟨b',g1,g2,g3⟩:=Fv h0 hl (by simpa [rB] using hn) h3
 have hlen:l'.length≤2048:=by
  have e:=congrArg List.length hl
  have e2:=List.length_filter_le (cN v) l
  simp at e
  omega
 refine⟨b',?_,g2,?_⟩
 ·unfold yE
  rw[if_pos ⟨h1,hlen⟩]
  exact g1
 ·have e0:(rB us gr).dZ.length=0:=rfl
  omega
end Go.Proofs.YtdbiffjdomokfaaGreat
