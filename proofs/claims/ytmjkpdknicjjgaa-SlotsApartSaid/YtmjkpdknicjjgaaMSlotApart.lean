/-
  What is kept is loaded: the laws' runs. No statement of a seat is proved here.
-/
import Derived.Test.YtmjkpdknicjjgaaSlotMath
import Derived.Test.YtmjkpdknicjjgaaMLgVl7
set_option linter.unusedVariables false
set_option linter.unusedSimpArgs false
set_option linter.unusedSectionVars false
set_option linter.unnecessarySimpa false
set_option maxRecDepth 100000
namespace Go.Proofs.Ytmjkpdknicjjgaa
open Go.Ab
attribute [local simp] bU bB bD bC keep thr cg bA bE ek ej bW cf aO cW List.take_of_length_le
theorem CV {d:Dk} (hf:d.Fit) (hm:d.may=true) {g:Int} {l:List (Rcd × AV)} {x:AV} (hx:Sl 24 (eO l) x) (hl : ∀p∈l,okRc p) (hH:Has d g (rcs l)):limf env 25 [d.val,aI g,x]=some (aB true):=by
 refine aG (fn:=Try.f25) (c:=fV) rfl (by kernel_rfl) (by kernel_rfl) (by kernel_rfl) (by kernel_rfl) ?_;refine n9 _ _ _ _ _ fun g'=>?_
 have hc:=vM hf
 have hL:=G3 hf
 have hlst:=NI hH
 have hcl:=EL _ _ _ hH.ch
 have hsu:=hH.sum
 rw [oR] at hcl
 unfold Dl at hL
 rw [hm,hH.cur,hlst,if_pos rfl,if_pos (by rw [oR])] at hL
 rw [hm,hH.cur,if_pos rfl] at hc
 have hrc : ∀r∈rcs l,r.op.l.length<1000000:=by
  intro r hr
  obtain ⟨p,hp,rfl⟩:=List.mem_map.1 hr
  exact (hl p hp).2
 have hsm:=vJ (zQ 24 (eO (runR (rcs l)))) hx (yh hrc) hl (by rw [zG,oR];omega)
 rw [JX,te] at hsm
 have hor:=(zQ 24 (eO (runR (rcs l)))).r
 have hxr:=hx.r
 have hxv:=hf.sl.r
 rw [sL] at hxr
 simp only [oR] at hc hL
 generalize outI 24 (eO (runR (rcs l)))=o at *
 clear hf hm hH hl hrc hlst
 obtain ⟨ll,y,st,lf,dd⟩:=d
 simp only [Dk.val,dsk] at *
 simp [af,ah,ad,ae,aa, *,fY,Heap.aj,eqA,eqFs]
theorem Ks {d:Dk} (h:d.may=true):d.st<2147483648 ∧ -1≤d.lf:=by
 unfold Dk.may dOk dhOk at h
 simp at h
 omega
theorem Bq {L:List Rcd} (h:mZ L=0):L.all eY=true∧sumN L≤2048∧L.length≤2048:=by
 unfold mZ at h
 split at h
 ·cases h
 ·split at h
  ·rename_i h2
   split at h
   ·rename_i h3;exact ⟨h2,h3,by omega⟩
   ·cases h
  ·cases h
theorem Ew {d:Dk} (hm:d.may=true) (hst:1≤d.st) {g:Int} {M:List Rcd} (hH:Has d g M) (hg:g≤100) (L:List Rcd):HW d L=mZ L:=by
 unfold HW
 rw [if_pos hm,if_neg (by omega),hH.cur,if_neg (show ¬2147483648≤(g,(M.length:Int)).1+1 by show ¬2147483648≤g+1;omega)]
 split
 ·rename_i h;rw [h]
 ·rfl
theorem Ny {d:Dk} (hf:d.Fit) (hm:d.may=true) (hst:1≤d.st) {L:List Rcd} (hr:mZ L=0):(iP d L).Fit∧(iP d L).may=true:=by
 obtain ⟨h1,h2,h3⟩:=Bq hr
 have hle:=BZ d
 have hap:=I2 L d (1+(d.cur.1+1) % 2) 0 1 hf hm hst (by omega) (by omega) (by omega) (by omega) (by omega) h1
 exact ⟨vl hap.1 hap.2.1 (by omega) (qc _ _),xX hap.2.1 (by omega) (qc _ _)⟩
structure Use (d:Dk) (g:Int) (L:List Rcd):Prop where
 fit:d.Fit
 may:d.may=true
 st:1≤d.st∧d.st≤100
 has:Has d g L
 gen:0≤g∧g≤100
theorem Gs:Use (fresh (-1)) 0 []:=⟨Iw _,Iv (by omega),by decide,Ii _,by omega⟩
theorem Gr {d:Dk} {g:Int} {M L:List Rcd} (h:Use d g M) (hg:g≤50) (hr:mZ L=0) (hF:Full d (sumN L+1)):Use (iP d L) (g+1) L∧(iP d L).dd=false∧(iP d L).st=d.st∧(d.lf = -1→(iP d L).lf = -1):=by
 obtain ⟨h1,h2,h3⟩:=Bq hr
 have hst:=h.st
 have hmh:=Ks h.may
 have hk:=Ny h.fit h.may (by omega) hr
 have hf:=BM h1 hF hmh.2
 have hc:d.cur.1=g:=by rw [h.has.cur]
 have hn:=NH h1 h2 (by omega) (by omega) h3 hF hmh.2
 rw [hc] at hn
 exact ⟨⟨hk.1,hk.2,by rw [hf.2.2.1];exact hst,hn,by have:=h.gen;omega⟩,hf.2.1,hf.2.2.1,hf.2.2.2⟩
def rO (u:Int):Rcd:=⟨1,u,⟨0,⟨1,1,2⟩,0,⟨⟨⟨0,0,0⟩,0⟩,0⟩,⟨⟨0,0,0⟩,0⟩,⟨0,0⟩,[]⟩,0,0,0,0,false⟩
theorem Lw (u:Int):limf env 23 [aI u]=some ((rO u).val aNil):=by
 refine aG (fn:=Try.f23) (c:=gB) rfl (by kernel_rfl) (by kernel_rfl) (by kernel_rfl) (by kernel_rfl) ?_;refine oO _ _ _ fun g=>?_
 unfold Rcd.val rO
 simp [af,ah,ad,ae,aa, *,gE]
theorem M7 (u:Int):okRc (rO u,aNil):=⟨.inl ⟨rfl,rfl⟩,by show 0<1000000;omega⟩
theorem CT:limf env 24 []=some (aB true):=by
 refine aG (fn:=Try.f24) (c:=fW) rfl (by kernel_rfl) (by kernel_rfl) (by kernel_rfl) (by kernel_rfl) ?_;refine od _ _ fun g=>?_
 have ho1:=Lw 1
 have ho2:=Lw 2
 have hN:=TY
 have hS:=MV (n := -1) (by omega)
 have u0:=Gs
 have x1:Sl 24 (eO [(rO 1,aNil)]) (.isl 24 [(rO 1).val aNil] (some 1)) := .inr ⟨some 1,rfl,by simp⟩
 have x2:Sl 24 (eO [(rO 1,aNil),(rO 2,aNil)]) (.isl 24 [(rO 1).val aNil,(rO 2).val aNil] (some 2)) := .inr ⟨some 2,rfl,by simp⟩
 have o1 : ∀p∈[(rO 1,aNil)],okRc p:=fun p hp=>by rw [List.mem_singleton.1 hp];exact M7 1
 have o2 : ∀p∈[(rO 1,aNil),(rO 2,aNil)],okRc p:=fun p hp=>by
  simp only [List.mem_cons,List.not_mem_nil,or_false] at hp
  rcases hp with rfl | rfl
  ·exact M7 1
  ·exact M7 2
 have r1:mZ (rcs [(rO 1,aNil)])=0:=by kernel_rfl
 have r2:mZ (rcs [(rO 1,aNil),(rO 2,aNil)])=0:=by kernel_rfl
 have k1:=Lz x1 o1 u0.fit (by simp)
 have e1:=Ew u0.may u0.st.1 u0.has u0.gen.2 (rcs [(rO 1,aNil)])
 rw [r1] at e1
 unfold KF at k1
 rw [if_pos e1] at k1
 obtain ⟨u1,d1,s1,l1⟩:=Gr u0 (by omega) r1 ⟨rfl,.inl rfl⟩
 have k2:=Lz x2 o2 u1.fit (by simp)
 have e2:=Ew u1.may u1.st.1 u1.has u1.gen.2 (rcs [(rO 1,aNil),(rO 2,aNil)])
 rw [r2] at e2
 unfold KF at k2
 rw [if_pos e2] at k2
 obtain ⟨u2,d2,s2,l2⟩:=Gr u1 (by omega) r2 ⟨d1,.inl (l1 rfl)⟩
 have g0:=CV (l:=[]) (x:=aNil) u0.fit u0.may (.inl ⟨rfl,rfl⟩) (fun p hp=>by cases hp) u0.has
 have g1:=CV u1.fit u1.may x1 o1 u1.has
 have g2:=CV u2.fit u2.may x2 o2 u2.has
 rw [show (0:Int)+1+1=2 from rfl] at g2
 rw [show (0:Int)+1=1 from rfl] at g1
 have f1:=u1.fit.sl.r
 have f2:=u2.fit.sl.r
 clear u0 u1 u2 x1 x2 o1 o2 r1 r2 e1 e2 d1 s1 l1 d2 s2 l2
 generalize iP (iP (fresh (-1)) (rcs [(rO 1,aNil)])) (rcs [(rO 1,aNil),(rO 2,aNil)])=D2 at *
 generalize iP (fresh (-1)) (rcs [(rO 1,aNil)])=D1 at *
 obtain ⟨l1,y1,st1,lf1,dd1⟩:=D1
 obtain ⟨l2,y2,st2,lf2,dd2⟩:=D2
 simp only [fresh,Dk.val,dsk] at *
 unfold Rcd.val rO at *
 simp only at *
 simp [af,ah,ad,ae,aa, *,fZ]
section
variable {a b c:List (Rcd × AV)} {xa xb xc:AV} (ha:Sl 24 (eO a) xa) (hb:Sl 24 (eO b) xb) (hc:Sl 24 (eO c) xc) (oa : ∀p∈a,okRc p) (ob : ∀p∈b,okRc p) (oc : ∀p∈c,okRc p) (la:a.length≤20) (lb:b.length≤20) (lc:c.length≤20)
 {Q:AV→Heap→Prop} (hQ : ∀H,Q (aB true) H) {n:Int} (hn:0≤n∧n≤1000)
include ha hb hc oa ob oc la lb lc hQ hn
end
section
variable {a b c:List (Rcd × AV)} {xa xb xc:AV} (ha:Sl 24 (eO a) xa) (hb:Sl 24 (eO b) xb) (hc:Sl 24 (eO c) xc) (oa : ∀p∈a,Sl 1 (rows p.1.op.l) p.2) (ob : ∀p∈b,Sl 1 (rows p.1.op.l) p.2) (oc : ∀p∈c,Sl 1 (rows p.1.op.l) p.2)
include ha hb hc oa ob oc
end
end Go.Proofs.Ytmjkpdknicjjgaa
set_option linter.unusedVariables false
set_option linter.unusedSimpArgs false
set_option linter.unusedSectionVars false
set_option linter.unnecessarySimpa false
set_option maxRecDepth 100000
namespace Go.Proofs.Ytmjkpdknicjjgaa
open Go.Ab
attribute [local simp] bU bB bD bC keep thr cg bA bE ek ej bW cf aO cW List.take_of_length_le
theorem FD {d e:Dk} (h : ∀q,2048≤q→e.rd q=d.rd q):Dl e=Dl d:=by
 have hc:e.cur=d.cur:=by
  unfold Dk.cur Dk.mark
  rw [h _ (by omega),h _ (by omega)]
 have hle:=BZ d
 have hl:e.lst=d.lst:=by
  unfold Dk.lst
  rw [hc,Fa (d:=d) (d':=e) (fun q h1 h2=>h q (by omega)) 2049 0 0 (by omega)]
 unfold Dl
 rw [hc,hl]
section
variable {l:List Sec} {x:AV} {st lf:Int} {dd:Bool} (hx:Sl 2 (encS l) x) (hok : ∀s∈l,sU s)
include hx hok
theorem I4 (q:Int) (v:UInt8):limf env 8 [dsk x st lf dd,aI q,a8 v]=some (aB true):=by
 refine aG (fn:=Try.f8) (c:=eJ) rfl (by kernel_rfl) (by kernel_rfl) (by kernel_rfl) (by kernel_rfl) ?_;refine lz _ _ _ _ _ fun g=>?_
 have al:=CT
 have hxr:=hx.r
 obtain ⟨t,hG,hG2⟩:=MT (st:=st) (lf:=lf) (dd:=dd) hx hok
 cases t with
 | true=>simp only [dsk] at hG ⊢;clear hG2;simp [af,ah,ad,ae,aa, *,bn]
 | false =>
 have hlen:=hG2 rfl
 clear hG2
 by_cases q1:q<0
 ·simp only [dsk] at hG ⊢;simp [af,ah,ad,ae,aa, *,bn]
 by_cases q2:2048≤q
 ·simp only [dsk] at hG ⊢;simp [af,ah,ad,ae,aa, *,bn]
 obtain ⟨b,hb⟩ : ∃b:List UInt8,b=v :: List.replicate 127 0:=⟨_,rfl⟩
 have hbl:b.length=128:=by rw [hb];simp
 have hmk:=sq (P:=env.P) (t:=68) (z:=1) (by':=1) (zz:=a8 0) (r:=⟨0,33,0,0⟩) (by kernel_rfl) (by kernel_rfl) (n:=128) (by decide) (by decide)
 have hw0:eD (List.replicate 128 (a8 0)) 0 0 [a8 v]=some (by8 b):=by rw [hb];rfl
 have hrl:(List.replicate 128 (a8 0)).length=128:=by simp
 have hbl8:(by8 b).length=128:=by simp [hbl]
 rw [show ((128:Nat):Int)=128 from rfl] at hmk
 have hbx:=Sl.mk 1 (by8 b)
 clear hb
 generalize List.replicate 128 (a8 0)=Z at *
 have hfit:(⟨l,x,st,lf,dd⟩:Dk).Fit:=⟨hx,hok,by show l.length<_;omega⟩
 cases hm:(⟨l,x,st,lf,dd⟩:Dk).may with
 | false =>
  have hm' : ¬dOk l st lf dd=true:=by
   have:dOk l st lf dd=false:=hm
   rw [this];decide
  have hW:=Fc (st:=st) (lf:=lf) (dd:=dd) (q:=q) hx hok (by omega) hbx (fun h=>hm' h.1)
  rw [if_neg hm'] at hW
  clear hfit hm hm' hok hx hbx
  generalize by8 b=B8 at *
  simp only [dsk,kJ] at *
  simp [af,ah,ad,ae,aa, *,bn,Heap.aj]
 | true =>
  have hW:=s_Wr hfit hm (q:=q) (by omega) hbx hbl
  have hf2:=vl hfit hm (q:=q) (by omega) hbl
  have hm2:=xX hm (q:=q) (by omega) hbl
  have hL1:=G3 hfit
  have hL2:=G3 hf2
  have hcg:=FD (d:=⟨l,x,st,lf,dd⟩) (e:=(⟨l,x,st,lf,dd⟩:Dk).wr q b) (fun r hr=>by rw [Gc,if_neg (fun h=>by omega)])
  rw [hm,if_pos rfl] at hL1
  rw [hm2,if_pos rfl,hcg] at hL2
  have hsc:=MD (d:=⟨l,x,st,lf,dd⟩) (p:=(1+(⟨l,x,st,lf,dd⟩:Dk).cur.1 % 2) * 2048) (nu:=0) (most:=(⟨l,x,st,lf,dd⟩:Dk).cur.2) 2049 0 0
  have hs1:=zQ 24 (eO (runR (⟨l,x,st,lf,dd⟩:Dk).lst))
  have hsm:=vJ hs1 hs1 (yh hsc.1) (yh hsc.1) (by rw [zG];have:=hsc.2;unfold Dk.lst;omega)
  rw [te] at hsm
  have hsn:=vJ (l:=[]) (m:=[]) (x:=aNil) (y:=aNil) (.inl ⟨rfl,rfl⟩) (.inl ⟨rfl,rfl⟩) (fun p hp=>by cases hp) (fun p hp=>by cases hp) (by simp)
  rw [te] at hsn
  have hor:=hs1.r
  have f2:=hf2.sl.r
  have hcase:((⟨l,x,st,lf,dd⟩:Dk).wr q b).x=aNil ∨ ∃c,((⟨l,x,st,lf,dd⟩:Dk).wr q b).x = .isl 2 (encS ((⟨l,x,st,lf,dd⟩:Dk).wr q b).l) c:=by
   rcases hf2.sl with ⟨h,_⟩ | ⟨c,h,_⟩
   ·exact .inl h
   ·exact .inr ⟨c,h⟩
  unfold Dl at hL1 hL2
  generalize (⟨l,x,st,lf,dd⟩:Dk).wr q b=y at *
  generalize outI 24 (eO (runR (⟨l,x,st,lf,dd⟩:Dk).lst))=o at *
  by_cases hln:((⟨l,x,st,lf,dd⟩:Dk).lst.length:Int)=(⟨l,x,st,lf,dd⟩:Dk).cur.2
  ·rw [if_pos hln] at hL1 hL2
   generalize (⟨l,x,st,lf,dd⟩:Dk).cur=m at *
   clear hln hfit hm hf2 hm2 hcg hsc hs1 hok hx hbx hbl
   generalize by8 b=B8 at *
   obtain ⟨l2,y2,st2,lf2,dd2⟩:=y
   simp only [Dk.val,dsk,kJ] at *
   rcases hcase with rfl | ⟨c,rfl⟩<;>simp [af,ah,ad,ae,aa, *,bn,Heap.aj,eqA,eqFs]
  ·rw [if_neg hln] at hL1 hL2
   clear hln hfit hm hf2 hm2 hcg hsc hs1 hok hx hbx hbl hor hsm
   generalize by8 b=B8 at *
   obtain ⟨l2,y2,st2,lf2,dd2⟩:=y
   simp only [Dk.val,dsk,kJ] at *
   rcases hcase with rfl | ⟨c,rfl⟩<;>simp [af,ah,ad,ae,aa, *,bn,Heap.aj,eqA,eqFs]
end
end Go.Proofs.Ytmjkpdknicjjgaa
