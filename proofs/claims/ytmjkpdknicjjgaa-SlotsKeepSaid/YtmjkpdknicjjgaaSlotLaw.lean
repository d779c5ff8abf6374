/-
  What is kept is loaded: the laws' runs. No statement of a seat is proved here.
-/
import Derived.Test.YtmjkpdknicjjgaaSlotMath
import Derived.Test.YtmjkpdknicjjgaaLgVl7
set_option linter.unusedVariables false
set_option linter.unusedSimpArgs false
set_option linter.unusedSectionVars false
set_option linter.unnecessarySimpa false
set_option maxRecDepth 100000
namespace Go.Proofs.Ytmjkpdknicjjgaa
open Go.Ab
attribute [local simp] cb bC bG bF keep thr cy bB bH eF eE bX cx aO cZ List.take_of_length_le
theorem nz {d:Dk} (hf:d.Fit) (hm:d.may=true) {g:Int} {l:List (Rcd × AV)} {x:AV} (hx:Sl 24 (eA l) x) (hl : ∀p∈l,okRc p) (hH:Has d g (rcs l)):limf env 25 [d.val,aI g,x]=some (aB true):=by
 refine aG (fn:=Try.f25) (c:=fY) rfl (by kernel_rfl) (by kernel_rfl) (by kernel_rfl) (by kernel_rfl) ?_;refine n9 _ _ _ _ _ fun g'=>?_
 have hc:=vV hf
 have hL:=QD hf
 have hlst:=Oi hH
 have hcl:=E8 _ _ _ hH.ch
 have hsu:=hH.sum
 rw [oY] at hcl
 unfold N3 at hL
 rw [hm,hH.cur,hlst,if_pos rfl,if_pos (by rw [oY])] at hL
 rw [hm,hH.cur,if_pos rfl] at hc
 have hrc : ∀r∈rcs l,r.op.l.length<1000000:=by
  intro r hr
  obtain ⟨p,hp,rfl⟩:=List.mem_map.1 hr
  exact (hl p hp).2
 have hsm:=Hn (Dp 24 (eA (runR (rcs l)))) hx (Ex hrc) hl (by rw [Ey,oY];omega)
 rw [Kt,FB] at hsm
 have hor:=(Dp 24 (eA (runR (rcs l)))).r
 have hxr:=hx.r
 have hxv:=hf.sl.r
 rw [qu] at hxr
 simp only [oY] at hc hL
 generalize outI 24 (eA (runR (rcs l)))=o at *
 clear hf hm hH hl hrc hlst
 obtain ⟨ll,y,st,lf,dd⟩:=d
 simp only [Dk.val,dsk] at *
 simp [af,ah,ad,ae,aa, *,gf,Heap.aj,eqA,eqFs]
theorem KY {d:Dk} (h:d.may=true):d.st<2147483648 ∧ -1≤d.lf:=by
 unfold Dk.may dOk dhOk at h
 simp at h
 omega
theorem oo {L:List Rcd} (h:gK L=0):L.all eS=true∧sumN L≤2048∧L.length≤2048:=by
 unfold gK at h
 split at h
 ·cases h
 ·split at h
  ·rename_i h2
   split at h
   ·rename_i h3;exact ⟨h2,h3,by omega⟩
   ·cases h
  ·cases h
theorem qS {d:Dk} (hm:d.may=true) (hst:1≤d.st) {g:Int} {M:List Rcd} (hH:Has d g M) (hg:g≤100) (L:List Rcd):Iz d L=gK L:=by
 unfold Iz
 rw [if_pos hm,if_neg (by omega),hH.cur,if_neg (show ¬2147483648≤(g,(M.length:Int)).1+1 by show ¬2147483648≤g+1;omega)]
 split
 ·rename_i h;rw [h]
 ·rfl
theorem DC {d:Dk} (hf:d.Fit) (hm:d.may=true) (hst:1≤d.st) {L:List Rcd} (hr:gK L=0):(ef d L).Fit∧(ef d L).may=true:=by
 obtain ⟨h1,h2,h3⟩:=oo hr
 have hle:=Ch d
 have hap:=Ju L d (1+(d.cur.1+1) % 2) 0 1 hf hm hst (by omega) (by omega) (by omega) (by omega) (by omega) h1
 exact ⟨yi hap.1 hap.2.1 (by omega) (qm _ _),AP hap.2.1 (by omega) (qm _ _)⟩
structure Use (d:Dk) (g:Int) (L:List Rcd):Prop where
 fit:d.Fit
 may:d.may=true
 st:1≤d.st∧d.st≤100
 has:Has d g L
 gen:0≤g∧g≤100
theorem Bo:Use (fresh (-1)) 0 []:=⟨I0 _,IZ (by omega),by decide,IJ _,by omega⟩
theorem vN {d:Dk} {g:Int} {L:List Rcd} (h:Use d g L) (hs:d.st≤50) {n:Int} (hn : -1≤n∧n≤1000):Use (d.again n) g L :=
 ⟨JA h.fit _,Jz h.may (by omega) (by have:=h.st;omega),by show 1≤d.st+1∧d.st+1≤100;have:=h.st;omega,IL h.has h.gen.1 n,h.gen⟩
theorem tk {d:Dk} {g:Int} {M L:List Rcd} (h:Use d g M) (hg:g≤50) (hr:gK L=0) (hF:Full d (sumN L+1)):Use (ef d L) (g+1) L∧(ef d L).dd=false∧(ef d L).st=d.st∧(d.lf = -1→(ef d L).lf = -1):=by
 obtain ⟨h1,h2,h3⟩:=oo hr
 have hst:=h.st
 have hmh:=KY h.may
 have hk:=DC h.fit h.may (by omega) hr
 have hf:=BX h1 hF hmh.2
 have hc:d.cur.1=g:=by rw [h.has.cur]
 have hn:=Oh h1 h2 (by omega) (by omega) h3 hF hmh.2
 rw [hc] at hn
 exact ⟨⟨hk.1,hk.2,by rw [hf.2.2.1];exact hst,hn,by have:=h.gen;omega⟩,hf.2.1,hf.2.2.1,hf.2.2.2⟩
theorem MR {d:Dk} {g:Int} {M L:List Rcd} (h:Use d g M) (hr:gK L=0) (h1:d.dd=false) (h2:0≤d.lf) (h3:d.lf≤sumN L) (hg:g≤50):Use (ef d L) g M∧(ef d L).dd=true∧(ef d L).st=d.st:=by
 obtain ⟨a1,a2,a3⟩:=oo hr
 have hst:=h.st
 have hk:=DC h.fit h.may (by omega) hr
 have hf:=BW a1 h1 h2 h3
 have hc:d.cur.1=g:=by rw [h.has.cur]
 exact ⟨⟨hk.1,hk.2,by rw [hf.2.2];exact hst,Og a1 a2 (by omega) (by omega) a3 h.has h1 h2 h3,h.gen⟩,hf.2.1,hf.2.2⟩
def rO (u:Int):Rcd:=⟨1,u,⟨0,⟨1,1,2⟩,0,⟨⟨⟨0,0,0⟩,0⟩,0⟩,⟨⟨0,0,0⟩,0⟩,⟨0,0⟩,[]⟩,0,0,0,0,false⟩
theorem L4 (u:Int):limf env 23 [aI u]=some ((rO u).val aNil):=by
 refine aG (fn:=Try.f23) (c:=gE) rfl (by kernel_rfl) (by kernel_rfl) (by kernel_rfl) (by kernel_rfl) ?_;refine oV _ _ _ fun g=>?_
 unfold Rcd.val rO
 simp [af,ah,ad,ae,aa, *,gI]
theorem NJ (u:Int):okRc (rO u,aNil):=⟨.inl ⟨rfl,rfl⟩,by show 0<1000000;omega⟩
theorem C3:limf env 24 []=some (aB true):=by
 refine aG (fn:=Try.f24) (c:=fZ) rfl (by kernel_rfl) (by kernel_rfl) (by kernel_rfl) (by kernel_rfl) ?_;refine od _ _ fun g=>?_
 have ho1:=L4 1
 have ho2:=L4 2
 have hN:=QC
 have hS:=Hs (n := -1) (by omega)
 have u0:=Bo
 have x1:Sl 24 (eA [(rO 1,aNil)]) (.isl 24 [(rO 1).val aNil] (some 1)) := .inr ⟨some 1,rfl,by simp⟩
 have x2:Sl 24 (eA [(rO 1,aNil),(rO 2,aNil)]) (.isl 24 [(rO 1).val aNil,(rO 2).val aNil] (some 2)) := .inr ⟨some 2,rfl,by simp⟩
 have o1 : ∀p∈[(rO 1,aNil)],okRc p:=fun p hp=>by rw [List.mem_singleton.1 hp];exact NJ 1
 have o2 : ∀p∈[(rO 1,aNil),(rO 2,aNil)],okRc p:=fun p hp=>by
  simp only [List.mem_cons,List.not_mem_nil,or_false] at hp
  rcases hp with rfl | rfl
  ·exact NJ 1
  ·exact NJ 2
 have r1:gK (rcs [(rO 1,aNil)])=0:=by kernel_rfl
 have r2:gK (rcs [(rO 1,aNil),(rO 2,aNil)])=0:=by kernel_rfl
 have k1:=yx x1 o1 u0.fit (by simp)
 have e1:=qS u0.may u0.st.1 u0.has u0.gen.2 (rcs [(rO 1,aNil)])
 rw [r1] at e1
 unfold BY at k1
 rw [if_pos e1] at k1
 obtain ⟨u1,d1,s1,l1⟩:=tk u0 (by omega) r1 ⟨rfl,.inl rfl⟩
 have k2:=yx x2 o2 u1.fit (by simp)
 have e2:=qS u1.may u1.st.1 u1.has u1.gen.2 (rcs [(rO 1,aNil),(rO 2,aNil)])
 rw [r2] at e2
 unfold BY at k2
 rw [if_pos e2] at k2
 obtain ⟨u2,d2,s2,l2⟩:=tk u1 (by omega) r2 ⟨d1,.inl (l1 rfl)⟩
 have g0:=nz (l:=[]) (x:=aNil) u0.fit u0.may (.inl ⟨rfl,rfl⟩) (fun p hp=>by cases hp) u0.has
 have g1:=nz u1.fit u1.may x1 o1 u1.has
 have g2:=nz u2.fit u2.may x2 o2 u2.has
 rw [show (0:Int)+1+1=2 from rfl] at g2
 rw [show (0:Int)+1=1 from rfl] at g1
 have f1:=u1.fit.sl.r
 have f2:=u2.fit.sl.r
 clear u0 u1 u2 x1 x2 o1 o2 r1 r2 e1 e2 d1 s1 l1 d2 s2 l2
 generalize ef (ef (fresh (-1)) (rcs [(rO 1,aNil)])) (rcs [(rO 1,aNil),(rO 2,aNil)])=D2 at *
 generalize ef (fresh (-1)) (rcs [(rO 1,aNil)])=D1 at *
 obtain ⟨l1,y1,st1,lf1,dd1⟩:=D1
 obtain ⟨l2,y2,st2,lf2,dd2⟩:=D2
 simp only [fresh,Dk.val,dsk] at *
 unfold Rcd.val rO at *
 simp only at *
 simp [af,ah,ad,ae,aa, *,gh]
section
variable {a b c:List (Rcd × AV)} {xa xb xc:AV} (ha:Sl 24 (eA a) xa) (hb:Sl 24 (eA b) xb) (hc:Sl 24 (eA c) xc) (oa : ∀p∈a,okRc p) (ob : ∀p∈b,okRc p) (oc : ∀p∈c,okRc p) (la:a.length≤20) (lb:b.length≤20) (lc:c.length≤20)
 {Q:AV→Heap→Prop} (hQ : ∀H,Q (aB true) H) {n:Int} (hn:0≤n∧n≤1000)
include ha hb hc oa ob oc la lb lc hQ hn
theorem G5 {s y:Dk} (hs:Use s 1 (rcs a)) (hlf:s.lf=n) (hdd:s.dd=false) (hst:s.st=2) (hr:gK (rcs b)=0) (hy:y=ef s (rcs b)) {H:Heap} (hF:Fr H) (h16:H.get ⟨0,16,0,0⟩=some ⟨4,[y.val],false,false⟩) :
 GoL env Try.f7 0 bM [(19,aI b.length),(18,aI (1+sumN (rcs b))),(1,xb),(9,aB true),(3,xc),(0,xa),(16,.ptr ⟨0,16,0,0⟩ 0 0),(2,aI n)] H Q:=by
 refine fV _ _ _ _ _ _ _ _ _ _ fun g=>?_
 have hxa:=ha.r
 have hxb:=hb.r
 have hxc:=hc.r
 rw [qu] at hxb
 have hsum:=(oo hr).2.1
 by_cases hnw:n≤sumN (rcs b)
 ·obtain ⟨hu,hd,hst2⟩:=MR hs hr hdd (by omega) (by omega) (by omega)
  rw [←hy] at hu hd hst2
  have ht:=vN hu (by omega) (n := -1) (by omega)
  have hT:=Db hu.fit hu.may (n := -1) (by omega) (by omega)
  have l1:=nz hu.fit hu.may ha oa hu.has
  have l2:=nz ht.fit ht.may ha oa ht.has
  have hK:=yx hc oc ht.fit (by omega)
  have hE:=qS ht.may ht.st.1 ht.has ht.gen.2 (rcs c)
  unfold BY at hK
  rw [hE] at hK
  have hlt:n<1+(sumN (rcs b):Int):=by omega
  have f1:=hu.fit.sl.r
  have f2:=ht.fit.sl.r
  by_cases hrc:gK (rcs c)=0
  ·rw [if_pos hrc] at hK
   have hz:=(tk ht (by omega) hrc ⟨rfl,.inl rfl⟩).1
   have l3:=nz hz.fit hz.may hc oc hz.has
   rw [show (1:Int)+1=2 from rfl] at l3
   have f3:=hz.fit.sl.r
   clear hy hs hu ht hz hE hr hrc oa ob oc ha hb hc hst2 hst hlf hdd
   generalize ef (y.again (-1)) (rcs c)=z at *
   generalize y.again (-1)=t at *
   obtain ⟨l1,y1,st1,lf1,dd1⟩:=y
   obtain ⟨l2,y2,st2,lf2,dd2⟩:=t
   obtain ⟨l3,y3,st3,lf3,dd3⟩:=z
   simp only [Dk.val,dsk] at *
   subst hd
   simp [af,ah,ad,ae,aa, *,bw,Heap.aj]
  ·rw [if_neg hrc] at hK
   clear hy hs hu ht hE hr oa ob oc ha hb hc hst2 hst hlf hdd
   generalize gK (rcs c)=er at *
   generalize y.again (-1)=t at *
   obtain ⟨l1,y1,st1,lf1,dd1⟩:=y
   obtain ⟨l2,y2,st2,lf2,dd2⟩:=t
   simp only [Dk.val,dsk,mr] at *
   subst hd
   simp [af,ah,ad,ae,aa, *,bw,Heap.aj]
 ·obtain ⟨hu,hd,hst2,hlx⟩:=tk hs (by omega) hr ⟨hdd,.inr (by omega)⟩
  clear hlx
  rw [←hy] at hu hd hst2
  have ht:=vN hu (by omega) (n := -1) (by omega)
  have hT:=Db hu.fit hu.may (n := -1) (by omega) (by omega)
  have l1:=nz hu.fit hu.may hb ob hu.has
  have l2:=nz ht.fit ht.may hb ob ht.has
  rw [show (1:Int)+1=2 from rfl] at l1 l2
  have hK:=yx hc oc ht.fit (by omega)
  have hE:=qS ht.may ht.st.1 ht.has ht.gen.2 (rcs c)
  unfold BY at hK
  rw [hE] at hK
  have hlt : ¬n<1+(sumN (rcs b):Int):=by omega
  have f1:=hu.fit.sl.r
  have f2:=ht.fit.sl.r
  by_cases hrc:gK (rcs c)=0
  ·rw [if_pos hrc] at hK
   have hz:=(tk ht (by omega) hrc ⟨rfl,.inl rfl⟩).1
   have l3:=nz hz.fit hz.may hc oc hz.has
   rw [show (1:Int)+1+1=3 from rfl] at l3
   have f3:=hz.fit.sl.r
   clear hy hs hu ht hz hE hr hrc oa ob oc ha hb hc hst2 hst hlf hdd
   generalize ef (y.again (-1)) (rcs c)=z at *
   generalize y.again (-1)=t at *
   obtain ⟨l1,y1,st1,lf1,dd1⟩:=y
   obtain ⟨l2,y2,st2,lf2,dd2⟩:=t
   obtain ⟨l3,y3,st3,lf3,dd3⟩:=z
   simp only [Dk.val,dsk] at *
   subst hd
   simp [af,ah,ad,ae,aa, *,bw,Heap.aj]
  ·rw [if_neg hrc] at hK
   clear hy hs hu ht hE hr oa ob oc ha hb hc hst2 hst hlf hdd
   generalize gK (rcs c)=er at *
   generalize y.again (-1)=t at *
   obtain ⟨l1,y1,st1,lf1,dd1⟩:=y
   obtain ⟨l2,y2,st2,lf2,dd2⟩:=t
   simp only [Dk.val,dsk,mr] at *
   subst hd
   simp [af,ah,ad,ae,aa, *,bw,Heap.aj]
theorem C2 {s y:Dk} (hs:Use s 1 (rcs a)) (hlf:s.lf=n) (hdd:s.dd=false) (hst:s.st=2) (hr:gK (rcs b)=0) (hy:y=ef s (rcs b)) {H:Heap} (hF:Fr H) (h16:H.get ⟨0,16,0,0⟩=some ⟨4,[y.val],false,false⟩) :
 ∀(t:List (Rcd × AV)) (k:Nat) (i w:Int),b.drop k=t→k≤b.length→i=k→w=1+sumN (rcs (b.take k)) →
 GoL env Try.f7 0 bM [(19,aI i),(18,aI w),(1,xb),(9,aB true),(3,xc),(0,xa),(16,.ptr ⟨0,16,0,0⟩ 0 0),(2,aI n)] H Q:=by
 intro t
 induction t with
 | nil =>
  rintro k i w hsd hk rfl rfl
  obtain rfl:=drop_nil hsd hk
  rw [List.take_length]
  exact G5 ha hb hc oa ob oc la lb lc hQ hn hs hlf hdd hst hr hy hF h16
 | cons p t ih =>
  rintro k i w hsd hk rfl rfl
  obtain ⟨hlt,hg,hs',hg'⟩:=drop_cons hsd
  have hp:=ob p (hg ▸ List.getElem_mem _)
  have hsum:=(oo hr).2.1
  have hI:eS p.1=true:=List.all_eq_true.1 (oo hr).1 p.1 (List.mem_map.2 ⟨p,by rw [←hg];exact List.getElem_mem _,rfl⟩)
  have htk:sumN (rcs (b.take (k+1)))=sumN (rcs (b.take k))+recN p.1:=by
   rw [List.take_add_one,hg']
   simp [rcs,Es,sumN]
  have hle:sumN (rcs (b.take (k+1)))≤sumN (rcs b):=by
   have:rcs b=rcs (b.take (k+1))++rcs (b.drop (k+1)):=by rw [←List.take_append_drop (k+1) b];simp [rcs]
   rw [this,Es];omega
  have e1:=IntWalk.i64_in ((k:Int)+1) (by omega)
  have e2:=IntWalk.i64_in (1+(sumN (rcs (b.take k)):Int)+recN p.1) (by omega)
  have hC:=L9 hp
  rw [hI,if_pos rfl] at hC
  have hrd:ed (eA b) k 0 24 true=some (p.1.val p.2):=by simp [eA,hg',Rcd.val]
  have hkl:(k:Int)<b.length:=by omega
  have hih:=ih (k+1) ((k:Int)+1) (1+(sumN (rcs (b.take k)):Int)+recN p.1) hs' (by omega) (by simp) (by rw [htk];omega)
  have hpr:=hp.1.r
  clear ih hs hy hr oa ob oc hI htk hle hQ hst hlf hdd
  unfold Rcd.val at hC hrd
  refine fV _ _ _ _ _ _ _ _ _ _ fun g=>?_
  simp [af,ah,ad,ae,aa, *,bw,hb.r,hb.idx]
  all_goals exact hih
end
section
variable {a b c:List (Rcd × AV)} {xa xb xc:AV} (ha:Sl 24 (eA a) xa) (hb:Sl 24 (eA b) xb) (hc:Sl 24 (eA c) xc) (oa : ∀p∈a,Sl 1 (rows p.1.op.l) p.2) (ob : ∀p∈b,Sl 1 (rows p.1.op.l) p.2) (oc : ∀p∈c,Sl 1 (rows p.1.op.l) p.2)
include ha hb hc oa ob oc
theorem Lb (n:Int):limf env 7 [xa,xb,aI n,xc]=some (aB true):=by
 refine aG (fn:=Try.f7) (c:=dF) rfl (by kernel_rfl) (by kernel_rfl) (by kernel_rfl) (by kernel_rfl) ?_;refine lW _ _ _ _ _ _ fun g=>?_
 have al:=C3
 have hxa:=ha.r
 have hxb:=hb.r
 have hxc:=hc.r
 obtain ⟨t1,hL1,hM1⟩:=Hr ha oa 20
 obtain ⟨t2,hL2,hM2⟩:=Hr hb ob 20
 obtain ⟨t3,hL3,hM3⟩:=Hr hc oc 20
 cases t1 with
 | true=>clear hM1 hM2 hM3;simp [af,ah,ad,ae,aa, *,aZ]
 | false =>
 cases t2 with
 | true=>clear hM1 hM2 hM3;simp [af,ah,ad,ae,aa, *,aZ]
 | false =>
 cases t3 with
 | true=>clear hM1 hM2 hM3;simp [af,ah,ad,ae,aa, *,aZ]
 | false =>
 by_cases q1:n<0
 ·clear hM1 hM2 hM3;simp [af,ah,ad,ae,aa, *,aZ]
 by_cases q2:1000<n
 ·clear hM1 hM2 hM3;simp [af,ah,ad,ae,aa, *,aZ]
 obtain ⟨a1,a2⟩:=hM1 rfl
 obtain ⟨b1,b2⟩:=hM2 rfl
 obtain ⟨c1,c2⟩:=hM3 rfl
 have oka : ∀p∈a,okRc p:=fun p hp=>⟨oa p hp,by have:=a1 p (by rw [List.take_of_length_le (by omega)];exact hp);omega⟩
 have okb : ∀p∈b,okRc p:=fun p hp=>⟨ob p hp,by have:=b1 p (by rw [List.take_of_length_le (by omega)];exact hp);omega⟩
 have okc : ∀p∈c,okRc p:=fun p hp=>⟨oc p hp,by have:=c1 p (by rw [List.take_of_length_le (by omega)];exact hp);omega⟩
 have hN:=QC
 have hS:=Hs (n := -1) (by omega)
 have u0:=Bo
 have k1:=yx ha oka u0.fit (by omega)
 have e1:=qS u0.may u0.st.1 u0.has u0.gen.2 (rcs a)
 unfold BY at k1
 rw [e1] at k1
 clear hM1 hM2 hM3 a1 b1 c1
 by_cases hra:gK (rcs a)=0
 ·rw [if_pos hra] at k1
  obtain ⟨u1,d1,s1,l1⟩:=tk u0 (by omega) hra ⟨rfl,.inl rfl⟩
  rw [show (0:Int)+1=1 from rfl] at u1
  have s1':(ef (fresh (-1)) (rcs a)).st=1:=s1
  have g1:=nz u1.fit u1.may ha oka u1.has
  have us:=vN u1 (by omega) (n:=n) (by omega)
  have hT:=Db u1.fit u1.may (n:=n) (by omega) (by omega)
  have k2:=yx hb okb us.fit (by omega)
  have e2:=qS us.may us.st.1 us.has us.gen.2 (rcs b)
  unfold BY at k2
  rw [e2] at k2
  have f1:=u1.fit.sl.r
  have f2:=us.fit.sl.r
  have hst2:((ef (fresh (-1)) (rcs a)).again n).st=2:=by show (ef (fresh (-1)) (rcs a)).st+1=2;omega
  by_cases hrb:gK (rcs b)=0
  ·rw [if_pos hrb] at k2
   have hky:=DC us.fit us.may us.st.1 hrb
   have f3:=hky.1.sl.r
   have hfin:=fun H hF h16=>C2 ha hb hc oka okb okc (by omega) (by omega) (by omega) (Q:=fun v H=>ik env 7 v H (aB true)) (fun H=>by simp) (n:=n) ⟨by omega,by omega⟩ us rfl rfl hst2 hrb rfl (H:=H) hF h16 b 0 0 1 rfl (by omega) rfl rfl
   clear oka okb okc u0 u1 us hky e1 e2 hra hrb d1 s1 l1 s1' hst2 oa ob oc ha hb hc
   generalize ef ((ef (fresh (-1)) (rcs a)).again n) (rcs b)=y at *
   generalize (ef (fresh (-1)) (rcs a)).again n=s at *
   generalize ef (fresh (-1)) (rcs a)=d at *
   obtain ⟨l1,y1,st1,lf1,dd1⟩:=d
   obtain ⟨l2,y2,st2,lf2,dd2⟩:=s
   obtain ⟨l3,y3,st3,lf3,dd3⟩:=y
   simp only [fresh,Dk.val,dsk] at *
   simp [af,ah,ad,ae,aa, *,aZ]
   exact hfin _ (by simp (maxDischargeDepth:=12) [Heap.aj,az,ar,Fr.nil,aL,af,ah,ad,ae,aA,aq,aa, *]) (by simp (maxDischargeDepth:=12) [Heap.aj,az,ar,Fr.nil,aL,af,ah,ad,ae,aA,aq,aa, *])
  ·rw [if_neg hrb] at k2
   generalize gK (rcs b)=er at *
   clear oka okb okc u0 u1 us e1 e2 hra d1 s1 l1 s1' hst2 oa ob oc ha hb hc
   generalize (ef (fresh (-1)) (rcs a)).again n=s at *
   generalize ef (fresh (-1)) (rcs a)=d at *
   obtain ⟨l1,y1,st1,lf1,dd1⟩:=d
   obtain ⟨l2,y2,st2,lf2,dd2⟩:=s
   simp only [fresh,Dk.val,dsk,mr] at *
   simp [af,ah,ad,ae,aa, *,aZ]
 ·rw [if_neg hra] at k1
  generalize gK (rcs a)=er at *
  clear oka okb okc u0 e1 oa ob oc ha hb hc
  simp only [fresh,Dk.val,dsk,mr] at *
  simp [af,ah,ad,ae,aa, *,aZ]
end
end Go.Proofs.Ytmjkpdknicjjgaa
