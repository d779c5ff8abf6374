/-
  Serials, quotas, blocks: what stays true from record to record. No statement of a seat is proved here.
-/
import Derived.Test.YtmkmimgokagimaaGreatMLeOnce0
set_option linter.unusedVariables false
set_option linter.unusedSimpArgs false
set_option linter.unusedSectionVars false
set_option linter.unnecessarySimpa false
set_option maxRecDepth 100000
namespace Go.Proofs.YtmkmimgokagimaaGreat
open Go.Ab
section
variable{us0:List Clear}{qs:List Quota}{gr0:Int}{l:List (Rcd × AV)}{b:Book}{p:Rcd × AV}(hp:polB us0 qs gr0=true)(h:Inv us0 qs gr0 l b)(his:jd p.1=true)
include hp h his
theorem Sk(k1:p.1.kind=1)(hf:Cu us0 qs gr0 b p.1=true):Inv us0 qs gr0 (l++[p]) (oc b p.1.op p.1.user):=by
 simp only[Cu,Bool.and_eq_true,decide_eq_true_eq,Bool.not_eq_true']at hf
 obtain⟨ho,_,hlt⟩:=hf
 have hN:recN p.1=1:=by
  rcases(vH his).2.2 with h2 | h1
  ·rw[k1]at h2;exact absurd h2 (by decide)
  ·exact h1
 have hu:=h.use ⟨p.1.op.h.lv,p.1.op.h.cats⟩
 have hq:=zm hp p.1.op.h.lv p.1.op.h.cats
 have hlt':(useK b ⟨p.1.op.h.lv,p.1.op.h.cats⟩).opens<(eY us0 qs gr0 p.1.op.h.lv p.1.op.h.cats).opens:=hlt
 simp only at hu
 have hw:IntKind.i64.wrap ((useK b ⟨p.1.op.h.lv,p.1.op.h.cats⟩).opens+1)=(useK b ⟨p.1.op.h.lv,p.1.op.h.cats⟩).opens+1:=IntWalk.i64_in _ (by omega)
 have hset : ∀v',useK (oc b p.1.op p.1.user) v'=if v'=⟨p.1.op.h.lv,p.1.op.h.cats⟩ then { useK b ⟨p.1.op.h.lv,p.1.op.h.cats⟩with opens:=(useK b ⟨p.1.op.h.lv,p.1.op.h.cats⟩).opens+1} else useK b v':=by
  intro v'
  have:=C5 b ⟨p.1.op.h.lv,p.1.op.h.cats⟩ { useK b ⟨p.1.op.h.lv,p.1.op.h.cats⟩with opens:=IntKind.i64.wrap ((useK b ⟨p.1.op.h.lv,p.1.op.h.cats⟩).opens+1)} v' (us:=b.us) (gr:=b.gr) (ses:=setK p.1.op.h (Ses.av ⟨true,p.1.user,0⟩) b.ses) (hist:=b.hist)
  rw[hw]at this
  rw[←this]
  unfold oc pq
  rw[show useD (dc ⟨p.1.op.h.lv,p.1.op.h.cats⟩ b.used)=useK b ⟨p.1.op.h.lv,p.1.op.h.cats⟩ from rfl,hw]
 have hls : ∀h',jS h' (l++[p])=jS h' l:=fun h'=>by rw[sx,if_neg (by rw[k1];simp)]
 have hmono : ∀v,wt (useK b v)≤wt (useK (oc b p.1.op p.1.user) v):=by
  intro v
  rw[hset]
  split
  ·rename_i e;subst e;simp[wt];omega
  ·exact Int.le_refl _
 have hpot:=B4 (b:=b) (b':=oc b p.1.op p.1.user) hmono (d:=1) (v:=⟨p.1.op.h.lv,p.1.op.h.cats⟩) (by rw[hset,if_pos rfl];simp[wt];omega) qs (AM (us0:=us0) (gr0:=gr0) (a:=p.1.op.h.lv) (c:=p.1.op.h.cats) (.inl (by omega)))
 have hgr:(oc b p.1.op p.1.user).gr=b.gr:=rfl
 refine⟨fun v=>?_,?_,h.gr,fun h'=>?_,fun h'=>?_⟩
 ·rw[hset]
  split
  ·rename_i e;subst e;simp only;omega
  ·exact h.use v
 ·rw[qy,hN,hgr]
  have:=h.blk
  omega
 ·rw[hls]
  show(sesD (dc h' (setK p.1.op.h (Ses.av ⟨true,p.1.user,0⟩) b.ses))).s=jS h' l∧((sesD (dc h' (setK p.1.op.h (Ses.av ⟨true,p.1.user,0⟩) b.ses))).o=false→jS h' l=0)
  by_cases e:h'=p.1.op.h
  ·subst e
   rw[qq,BO]
   exact⟨((h.ser p.1.op.h).2 ho).symm,fun h=>by cases h⟩
  ·rw[oI e]
   exact h.ser h'
 ·rw[hls]
  refine⟨(h.up h').1,(h.up h').2.1,fun q hq hk he=>?_⟩
  rcases List.mem_append.1 hq with hq | hq
  ·exact(h.up h').2.2 q hq hk he
  ·rw[List.mem_singleton]at hq;subst hq;rw[k1]at hk;exact absurd hk (by decide)
theorem Ob(k2:p.1.kind=2)(hf:Ct us0 qs gr0 b p.1=true):Inv us0 qs gr0 (l++[p]) (doOp b p.1.op p.1.code (rS p.2))∧p.1.op.serial=jS p.1.op.h l+1:=by
 simp only[Ct,Bool.and_eq_true,decide_eq_true_eq]at hf
 obtain⟨ho,_,hsr,hlt,hcode⟩:=hf
 have hop:opB p.1.op=true:=by
  unfold jd at his
  rw[if_neg (by rw[k2];decide),if_pos k2]at his
  simp only[Bool.and_eq_true]at his
  exact his.2.1
 have hser:1≤p.1.op.serial∧p.1.op.serial<16777216:=by
  simp only[opB,Bool.and_eq_true,decide_eq_true_eq]at hop
  exact⟨hop.2.1,hop.2.2.1⟩
 have hN:=(vH his).2.1
 have hs0:=(h.ser p.1.op.h).1
 have hup:=h.up p.1.op.h
 have hsw:p.1.op.serial=jS p.1.op.h l+1:=by
  rw[hsr]
  show IntKind.i64.wrap ((sesD (dc p.1.op.h b.ses)).s+1)=_
  rw[hs0]
  exact IntWalk.i64_in _ (by omega)
 refine⟨?_,hsw⟩
 have hu:=h.use ⟨p.1.op.h.lv,p.1.op.h.cats⟩
 have hq:=zm hp p.1.op.h.lv p.1.op.h.cats
 have hlt':(useK b ⟨p.1.op.h.lv,p.1.op.h.cats⟩).ops<(eY us0 qs gr0 p.1.op.h.lv p.1.op.h.cats).ops:=hlt
 simp only at hu
 have hw:IntKind.i64.wrap ((useK b ⟨p.1.op.h.lv,p.1.op.h.cats⟩).ops+1)=(useK b ⟨p.1.op.h.lv,p.1.op.h.cats⟩).ops+1:=IntWalk.i64_in _ (by omega)
 have hcell:(wG b p.1.op p.1.code).cells≤(eY us0 qs gr0 p.1.op.h.lv p.1.op.h.cats).cells:=by
  unfold wG
  simp only
  split
  ·rename_i hc
   rw[hc.1]at hcode
   unfold rL at hcode
   split at hcode
   ·rename_i h1;exact absurd hcode.symm h1
   ·split at hcode
    ·exact absurd hcode (by decide)
    ·rename_i h2
     have : ¬(eY us0 qs gr0 p.1.op.h.lv p.1.op.h.cats).cells<IntKind.i64.wrap ((useD (dc ⟨p.1.op.h.lv,p.1.op.h.cats⟩ b.used)).cells+p.1.op.s.many):=fun h3=>h2 ⟨hc.2,h3⟩
     have e:(pq b p.1.op).cells=(useD (dc ⟨p.1.op.h.lv,p.1.op.h.cats⟩ b.used)).cells:=rfl
     rw[e]
     omega
  ·exact hu.2.2.2.2
 have hdo:(wG b p.1.op p.1.code).opens=(useK b ⟨p.1.op.h.lv,p.1.op.h.cats⟩).opens∧(wG b p.1.op p.1.code).ops=(useK b ⟨p.1.op.h.lv,p.1.op.h.cats⟩).ops+1:=⟨rfl,hw⟩
 have hset : ∀v',useK (doOp b p.1.op p.1.code (rS p.2)) v'=if v'=⟨p.1.op.h.lv,p.1.op.h.cats⟩ then wG b p.1.op p.1.code else useK b v':=by
  intro v'
  exact C5 b ⟨p.1.op.h.lv,p.1.op.h.cats⟩ (wG b p.1.op p.1.code) v'
 have hmono : ∀v,wt (useK b v)≤wt (useK (doOp b p.1.op p.1.code (rS p.2)) v):=by
  intro v
  rw[hset]
  split
  ·rename_i e;subst e;simp only[wt];omega
  ·exact Int.le_refl _
 have hpot:=B4 (b:=b) (b':=doOp b p.1.op p.1.code (rS p.2)) hmono (d:=4) (v:=⟨p.1.op.h.lv,p.1.op.h.cats⟩) (by rw[hset,if_pos rfl];simp only[wt];omega) qs (AM (us0:=us0) (gr0:=gr0) (a:=p.1.op.h.lv) (c:=p.1.op.h.cats) (.inr (by omega)))
 have hgr:(doOp b p.1.op p.1.code (rS p.2)).gr=b.gr:=rfl
 have hls : ∀h',jS h' (l++[p])=if h'=p.1.op.h then p.1.op.serial else jS h' l:=fun h'=>by
  rw[sx]
  by_cases e:h'=p.1.op.h
  ·subst e;rw[if_pos ⟨k2,rfl⟩,if_pos rfl]
  ·rw[if_neg (fun hh=>e hh.2.symm),if_neg e]
 refine⟨fun v=>?_,?_,h.gr,fun h'=>?_,fun h'=>?_⟩
 ·rw[hset]
  split
  ·rename_i e;subst e;simp only;omega
  ·exact h.use v
 ·rw[qy,hgr]
  have:=h.blk
  omega
 ·rw[hls]
  show(sesD (dc h' (setK p.1.op.h (Ses.av { rX b p.1.op with s:=IntKind.i64.wrap ((rX b p.1.op).s+1)}) b.ses))).s=_∧((sesD (dc h' (setK p.1.op.h (Ses.av { rX b p.1.op with s:=IntKind.i64.wrap ((rX b p.1.op).s+1)}) b.ses))).o=false→_)
  by_cases e:h'=p.1.op.h
  ·subst e
   rw[qq,BO,if_pos rfl]
   refine⟨hsr.symm,fun hh=>?_⟩
   simp only at hh
   rw[hh]at ho
   cases ho
  ·rw[oI e,if_neg e]
   exact h.ser h'
 ·rw[hls]
  by_cases e:h'=p.1.op.h
  ·subst e
   rw[if_pos rfl]
   refine⟨by omega,by omega,fun q hq hk he=>?_⟩
   rcases List.mem_append.1 hq with hq | hq
   ·have:=hup.2.2 q hq hk he;omega
   ·rw[List.mem_singleton]at hq;subst hq;exact Int.le_refl _
  ·rw[if_neg e]
   refine⟨(h.up h').1,(h.up h').2.1,fun q hq hk he=>?_⟩
   rcases List.mem_append.1 hq with hq | hq
   ·exact(h.up h').2.2 q hq hk he
   ·rw[List.mem_singleton]at hq;subst hq;exact absurd he.symm e
theorem Sj(k1:p.1.kind≠1)(k2:p.1.kind≠2)(hf:Ba qs b p.1=true):Inv us0 qs gr0 (l++[p]) (pG b p.1.gu p.1.gv p.1.gc p.1.gok):=by
 have hN:recN p.1=1:=by
  rcases(vH his).2.2 with h2 | h1
  ·exact absurd h2 k2
  ·exact h1
 have ha:q0 b.us qs b.gr p.1.gu p.1.gv p.1.gc p.1.gok=0:=by simpa [Ba] using hf
 have hg:1≤b.gr∧b.gr≤64:=by
  unfold q0 at ha
  split at ha
  ·rename_i hc
   simp only[Bool.and_eq_true,polB,decide_eq_true_eq]at hc
   split at ha
   ·exact absurd ha (by decide)
   ·split at ha
    ·exact absurd ha (by decide)
    ·rename_i h0;omega
  ·exact absurd ha (by decide)
 have hw:IntKind.i64.wrap (b.gr - 1)=b.gr - 1:=IntWalk.i64_in _ (by omega)
 have hls : ∀h',jS h' (l++[p])=jS h' l:=fun h'=>by rw[sx,if_neg (fun hh=>k2 hh.1)]
 have hgr:(pG b p.1.gu p.1.gv p.1.gc p.1.gok).gr=b.gr - 1:=hw
 have hpot : ∀l,pot (pG b p.1.gu p.1.gv p.1.gc p.1.gok) l=pot b l:=by
  intro l
  induction l with
  | nil=>rfl
  | cons q l ih=>simp only[pot,ih];rfl
 refine⟨h.use,?_,?_,fun h'=>?_,fun h'=>?_⟩
 ·rw[qy,hN,hgr,hpot]
  have:=h.blk
  omega
 ·rw[hgr];omega
 ·rw[hls];exact h.ser h'
 ·rw[hls]
  refine⟨(h.up h').1,(h.up h').2.1,fun q hq hk he=>?_⟩
  rcases List.mem_append.1 hq with hq | hq
  ·exact(h.up h').2.2 q hq hk he
  ·rw[List.mem_singleton]at hq;subst hq;exact absurd hk k2
theorem zQ(hf:zV us0 qs gr0 b p.1=true):Inv us0 qs gr0 (l++[p]) (doR b p):=by
 unfold zV at hf
 unfold doR
 by_cases k1:p.1.kind=1
 ·rw[if_pos k1]at hf ⊢
  exact Sk hp h his k1 hf
 ·rw[if_neg k1]at hf ⊢
  by_cases k2:p.1.kind=2
  ·rw[if_pos k2]at hf ⊢
   exact(Ob hp h his k2 hf).1
  ·rw[if_neg k2]at hf ⊢
   exact Sj hp h his k1 k2 hf
end
theorem inv0{us0:List Clear}{qs:List Quota}{gr0:Int}(hp:polB us0 qs gr0=true):Inv us0 qs gr0 [] (rG us0 gr0):=by
 have hz : ∀v,useK (rG us0 gr0) v=⟨0,0,0⟩:=fun v=>rfl
 have hpot : ∀l,pot (rG us0 gr0) l=0:=by
  intro l
  induction l with
  | nil=>rfl
  | cons q l ih=>simp only[pot,ih,hz];rfl
 refine⟨fun v=>?_,?_,?_,fun h=>⟨rfl,fun _=>rfl⟩,fun h=>⟨by simp[jS],by simp[jS],fun p hp=>by cases hp⟩⟩
 ·rw[hz]
  have:=zm hp v.lv v.cats
  simp only
  omega
 ·rw[hpot];show(0:Int)+gr0≤gr0+0;omega
 ·simp only[polB,Bool.and_eq_true,decide_eq_true_eq]at hp;exact hp.1.1.1.2.1
theorem GN{us0:List Clear}{qs:List Quota}{gr0:Int}(hp:polB us0 qs gr0=true) : ∀(s l:List (Rcd × AV)) (b b':Book),Inv us0 qs gr0 l b→ofB us0 qs gr0 b s=some b'→Inv us0 qs gr0 (l++s) b'
 | [],l,b,b',h,he=>by simp[ofB]at he;subst he;simpa using h
 | p :: s,l,b,b',h,he=>by
  unfold ofB at he
  split at he
  ·rename_i hc
   have:=GN hp s (l++[p]) (doR b p) b' (zQ hp h hc.1 hc.2) he
   simpa using this
  ·cases he
section
variable{us0:List Clear}{qs:List Quota}{gr0:Int}{l:List (Rcd × AV)}{b:Book}(ho:ofA us0 qs gr0 l=some b)
include ho
theorem vP:polB us0 qs gr0=true∧l.length≤2048∧ofB us0 qs gr0 (rG us0 gr0) l=some b:=by
 unfold ofA at ho
 split at ho
 ·rename_i h;exact⟨h.1,h.2,ho⟩
 ·cases ho
theorem B8:Inv us0 qs gr0 l b:=by
 obtain⟨h1,_,h3⟩:=vP ho
 have:=GN h1 l [] _ b (inv0 h1) h3
 simpa using this
theorem IX(k:Nat):(ofA us0 qs gr0 (l.take k)).isSome=true:=by
 obtain⟨h1,h2,h3⟩:=vP ho
 unfold ofA
 rw[if_pos ⟨h1,by simp;omega⟩]
 rw[←List.take_append_drop k l,B7]at h3
 cases e:ofB us0 qs gr0 (rG us0 gr0) (l.take k) with
 | none=>rw[e]at h3;cases h3
 | some _=>rfl
theorem Lv:kN l≤gT gr0 qs:=by
 obtain⟨h1,h2,h3⟩:=vP ho
 have hI:=B8 ho
 have hr:qRow none qs=true:=by simp only[polB,Bool.and_eq_true]at h1;exact h1.1.2
 have hlen:qs.length≤8∧0≤gr0∧gr0≤64:=by simp only[polB,Bool.and_eq_true,decide_eq_true_eq]at h1;exact⟨h1.1.1.1.1.2,h1.1.1.1.2⟩
 have hs:=Br (l:=qs) (n:=gr0) (zn hr) hlen.2.1 (by omega)
 have hq:=AP (b:=b) (us0:=us0) (qs:=qs) (gr0:=gr0) (l:=qs) (n:=gr0) (fun q hq=>by
  have hu:=hI.use ⟨q.lv,q.cats⟩
  have hk:sg us0 qs gr0 q.lv=0:=by
   have hl:qN q.lv=0:=by have:=zn hr q hq;simp only[qOwn,Bool.and_eq_true,decide_eq_true_eq]at this;exact this.1
   unfold sg
   rw[hl,h1]
   decide
  have he:eY us0 qs gr0 q.lv q.cats=q:=by
   unfold eY vI
   rw[if_pos hk,Bb hr q hq]
   rfl
  simp only at hu
  rw[he]at hu
  simp only[wt]
  omega)
 have hb:=hI.blk
 have hg:=hI.gr
 rw[hs.1]
 omega
theorem Dw{k:Nat}(hk:k<l.length):jd (l[k]).1=true∧((l[k]).1.kind=2→(l[k]).1.op.serial=jS (l[k]).1.op.h (l.take k)+1∧(∀p∈l.take k,p.1.kind=2→p.1.op.h=(l[k]).1.op.h→p.1.op.serial≤jS (l[k]).1.op.h (l.take k))):=by
 obtain⟨h1,h2,h3⟩:=vP ho
 have hs:l=l.take k++(l[k] :: l.drop (k+1)):=by rw[←List.drop_eq_getElem_cons hk,List.take_append_drop]
 rw[hs,B7]at h3
 cases e:ofB us0 qs gr0 (rG us0 gr0) (l.take k) with
 | none=>rw[e]at h3;cases h3
 | some b1 =>
  rw[e,Option.bind_some,ofB]at h3
  split at h3
  ·rename_i hc
   have hI:=GN h1 (l.take k) [] _ b1 (inv0 h1) e
   rw[List.nil_append]at hI
   refine⟨hc.1,fun k2=>⟨?_,(hI.up (l[k]).1.op.h).2.2⟩⟩
   have hf:=hc.2
   unfold zV at hf
   rw[if_neg (by rw[k2];decide),if_pos k2]at hf
   exact(Ob h1 hI hc.1 k2 hf).2
  ·cases h3
end
end Go.Proofs.YtmkmimgokagimaaGreat
