/-
  Stores in use: what is answered. No statement of a seat is proved here.
-/
import Derived.Test.YtiidajnodhkidaaGreatStMath
import Derived.Test.YtiidajnodhkidaaGreatStVc11
import Derived.Test.YtiidajnodhkidaaGreatStVc10
set_option linter.unusedVariables false
set_option linter.unusedSimpArgs false
set_option linter.unusedSectionVars false
set_option linter.unnecessarySimpa false
set_option maxRecDepth 100000
namespace Go.Proofs.YtiidajnodhkidaaGreat
open Go.Ab
attribute [local simp] cx bP bT bS keep thr cF bH bU eF eE cM cE aY dq List.take_of_length_le
def mH(d:Dk)(W:List Rcd)(g k at':Int):AV:=stV d (outI 24 (bB (runR W))) g k at'
theorem Rb{W:List Rcd}(h:W.all eD=true) : ∀r∈W,r.op.l.length<1000000:=by
 intro r hr
 have h1:=List.all_eq_true.1 h r hr
 have hp:=FY h1 []
 have:=u9 (recB r++[])
 rw[hp]at this
 omega
section
variable{d:Dk}{L1 L2:List Rcd}{g at':Int}(h:Good d L1 L2 g at')
include h
theorem tX:stOk d (L1++L2) g L1.length at'=true:=by
 obtain⟨h1,h2,h3,h4⟩:=J8 h
 unfold stOk
 rw[h1,h2,h3,h4,kR]
 simp
theorem Af:ofA d = .tup [mH d.tw (L1++L2) g L1.length at',aI 0]:=by
 obtain⟨h1,h2,h3,h4⟩:=J8 h
 unfold ofA mH
 rw[if_pos h1,h2,h3,h4]
theorem kF:(∀p∈runR (L1++L2),okRc p)∧Sl 24 (bB (runR (L1++L2))) (outI 24 (bB (runR (L1++L2))))∧(runR (L1++L2)).length<1000000:=by
 refine⟨CP (Rb h.okW),iw _ _,by rw[pf,List.length_append];have:=BI h;omega⟩
theorem Kh:limf env 16 [mH d (L1++L2) g L1.length at']=some (aI 0):=by
 obtain⟨r1,r2,r3⟩:=kF h
 have:=tB h.fit r2 r1 r3 g L1.length at'
 rw[mB,tX h,if_pos rfl]at this
 exact this
theorem Kg:limf env 20 [mH d (L1++L2) g L1.length at']=some (aI d.st):=by
 obtain⟨r1,r2,r3⟩:=kF h
 exact Pj h.fit r2 g L1.length at'
end
inductive Did (d:Dk) (W:List Rcd) (g at0:Int) (k:UInt8) (r:Rcd):AV→Prop
 | no (e:Int) (he:e≠0) (hk:k=0∨k=1→k=0∧eD r=false):Did d W g at0 k r (.tup [iZ,aI e])
 | yes (D:Dk) (L1 L2:List Rcd) (g' at':Int) (h:Good D L1 L2 g' at') (hg:g'≤g+1) (hst:D.st=if 1<k then d.st+1 else d.st) (hW:L1++L2=if k=0∧D.dd=false then W++[r] else W) (hk:1<k→D.dd=false)
  (hx:d.dd=false→d.lf = -1→k=0∨k=1→D.dd=false∧D.lf = -1∧(k=0→at'=at0+recN r)∧(k=1→at'=0)):Did d W g at0 k r (.tup [mH D (L1++L2) g' L1.length at',aI 0])
section
variable{d:Dk}{L1 L2:List Rcd}{g at':Int}(h:Good d L1 L2 g at')(hs:d.st≤90)(hg:g≤90)(hW:(L1++L2).length<190)
include h hs hg hW
theorem Qg(r:Rcd){x:AV}(hx:Sl 1 (rows r.op.l) x)(hl:r.op.l.length<2000000) : ∃y,limf env 9 [mH d (L1++L2) g L1.length at',r.val x]=some y∧Did d (L1++L2) g at' 0 r y:=by
 obtain⟨r1,r2,r3⟩:=kF h
 have hA:=SJ h.fit r2 r1 r3 g L1.length at' r hx hl
 have hE:=Dj h (r:=r)
 have ha3:=MP h
 rw[mB,tX h,pf,hE]at hA
 refine⟨_,hA,?_⟩
 unfold qe
 rw[if_pos rfl]
 cases hI:eD r with
 | false=>exact .no 8 (by decide) fun _=>⟨rfl,hI⟩
 | true =>
  have hrn:=nY hI
  have hro:at'+recN r≤2048:=by omega
  rw[if_pos rfl,if_pos hro,if_pos rfl]
  rcases MQ h hI hro with ⟨_,hG,hd⟩ | ⟨hG,hd⟩
  ·rw[Af hG]
   exact .yes _ _ _ _ _ (qL hG) (by omega) (by rw[if_neg (by decide)];exact sw _ _ _ _ _) (by rw[if_pos ⟨rfl,hd⟩,List.append_assoc]) (fun h=>absurd h (by decide)) fun h1 h2 _=>⟨hd,(w8 _ d.tw _ h1 h2).1,fun _=>rfl,fun h=>absurd h (by decide)⟩
  ·rw[Af hG]
   have hd':(d.app 0 at' (↑(L1++L2).length+1) r).tw.dd=true:=hd
   exact .yes _ _ _ _ _ (qL hG) (by omega) (by rw[if_neg (by decide)];exact sw _ _ _ _ _) (by rw[if_neg (fun h=>by rw[hd']at h;cases h.2)]) (fun h=>absurd h (by decide)) fun h1 h2 _=>absurd ((w8 _ d.tw _ h1 h2).2.symm.trans hd) (by decide)
theorem NY(k:UInt8)(hk:k=1)(r:Rcd) : ∃y,limf env 11 [mH d (L1++L2) g L1.length at']=some y∧Did d (L1++L2) g at' k r y:=by
 obtain⟨r1,r2,r3⟩:=kF h
 have hA:=O8 h.fit r2 r1 r3 g L1.length at'
 have hr0:=Pp h.okW (by omega)
 rw[mB,tX h,Hw h,if_pos hr0,if_neg (by omega)]at hA
 refine⟨_,hA,?_⟩
 unfold qe
 rw[if_pos rfl,if_pos rfl]
 obtain⟨g',M1,M2,at2,e1,e2,hG,e3,_,e4⟩:=J9 h hr0 (by omega)
 rw[Af hG]
 subst hk
 exact .yes _ _ _ _ _ (qL hG) e2 (by rw[if_neg (by decide)];exact e3) (by rw[if_neg (fun h=>by cases h.1)];exact e1) (fun h=>absurd h (by decide)) fun h1 h2 _=>⟨(e4 h1 h2).1,(e4 h1 h2).2.1,fun h=>absurd h (by decide),fun _=>(e4 h1 h2).2.2.1⟩
theorem Qf(k:UInt8)(hk:1<k)(r:Rcd)(n:Int) : ∃y,limf env 12 [mH d (L1++L2) g L1.length at',aI n]=some y∧Did d (L1++L2) g at' k r y:=by
 obtain⟨r1,r2,r3⟩:=kF h
 have hA:=LB h.fit r2 r1 r3 g L1.length at' n
 rw[mB,tX h]at hA
 have hk0 : ¬k=0:=by rintro rfl;exact absurd hk (by decide)
 have hk1 : ¬(k=0∨k=1):=by rintro(rfl | rfl)<;>exact absurd hk (by decide)
 refine⟨_,hA,?_⟩
 unfold qe nI
 rw[if_pos rfl,if_pos h.may]
 by_cases c1:n < -1∨2147483648≤n
 ·rw[if_pos c1,if_neg (by decide)]
  exact .no 2 (by decide) fun h=>absurd h hk1
 ·have hlt : ¬d.st+1≥2147483648:=by omega
  rw[if_neg c1,if_neg hlt,if_pos rfl]
  have hG:=Hy h (by omega) (n:=n) (by omega)
  rw[Af hG]
  exact .yes _ _ _ _ _ (qL hG) (by omega) (by rw[if_pos hk];rfl) (by rw[if_neg (fun h=>hk0 h.1)]) (fun _=>rfl) fun _ _ h=>absurd h hk1
end
structure Stp where
 k:UInt8
 r:Rcd
 x:AV
 n:Int
def Stp.val(s:Stp):AV := .agg [a8 s.k,a8 s.r.kind,aI s.r.user,a8 s.r.op.kind,a8 s.r.op.h.lv,a32 s.r.op.h.cats,a8 s.r.op.h.num,aI s.r.op.serial,a8 s.r.op.s.f.h.lv,a32 s.r.op.s.f.h.cats,a8 s.r.op.s.f.h.num,aI s.r.op.s.f.n,aI s.r.op.s.many,a8 s.r.op.a.h.lv,a32 s.r.op.a.h.cats,a8 s.r.op.a.h.num,aI s.r.op.a.n,
 a8 s.r.op.to.lv,a32 s.r.op.to.cats,s.x,aI s.r.code,aI s.r.gu,a8 s.r.gv,a32 s.r.gc,aB s.r.gok,aI s.n]
theorem yf{d:Dk}{W:List Rcd}{g at0:Int}{k:UInt8}{r:Rcd}{y:AV}(h:Did d W g at0 k r y):(∃e:Int,y = .tup [iZ,aI e]) ∨∃(D:Dk) (o:AV) (m1 m2 m3:Int),(rL D.x=some (encS D.l).length∧(∀(g:Get)(n:Nat),view g (n+1) D.x=some D.x)∧(∀(g:Get)(n:Nat),aJ g n D.x=[])∧D.x.cells=[D.x]∧D.x.one=true∧(∀(g:Get)(n:Nat),dL g (n+1) D.x=some D.x) ∧∀(r:Ref)(n:Nat)(bs:List Blk),bG r n D.x bs=(D.x,bs)) ∧
 ((∀(g:Get)(n:Nat),view g (n+1) o=some o)∧(∀(g:Get)(n:Nat),aJ g n o=[])∧o.cells=[o]∧o.one=true∧(∀(g:Get)(n:Nat),dL g (n+1) o=some o) ∧∀(r:Ref)(n:Nat)(bs:List Blk),bG r n o bs=(o,bs))∧y = .tup [stV D o m1 m2 m3,aI 0]:=by
 cases h with
 | no e he hk=>exact .inl ⟨e,rfl⟩
 | yes D L1 L2 g' at' h hg hst hW hk hx=>exact .inr ⟨D,_,_,_,_,h.fit.sl.r,(iw 24 (bB (runR (L1++L2)))).r.2,rfl⟩
section
variable{d:Dk}{L1 L2:List Rcd}{g at':Int}(h:Good d L1 L2 g at')(hs:d.st≤90)(hg:g≤90)(hW:(L1++L2).length<190)
include h hs hg hW
theorem TQ(s:Stp)(hx:Sl 1 (rows s.r.op.l) s.x)(hl:s.r.op.l.length<2000000) : ∃y,limf env 18 [mH d (L1++L2) g L1.length at',s.val]=some y∧Did d (L1++L2) g at' s.k s.r y:=by
 have hv:=h.fit.sl.r
 obtain⟨r1,r2,r3⟩:=kF h
 have hor:=r2.r
 have hxr:=hx.r
 rw[jf]at hor
 by_cases k0:s.k=0
 ·obtain⟨y,e1,e2⟩:=Qg h hs hg hW s.r hx hl
  refine⟨y,?_,by rw[k0];exact e2⟩
  refine aG (fn:=Tryz.f18) (c:=fK) rfl (by kernel_rfl) (by kernel_rfl) (by kernel_rfl) (by kernel_rfl) ?_;refine ir _ _ _ _ fun g'=>?_
  have hsh:=yf e2
  unfold mH at *
  generalize outI 24 (bB (runR (L1++L2)))=o at *
  clear e2 h r1 r2 r3
  obtain⟨l,x',st,lf,dd⟩:=d
  obtain⟨k,r,x,n⟩:=s
  simp only at k0
  subst k0
  rcases hsh with ⟨e,rfl⟩ | ⟨D,o2,m1,m2,m3,hD,ho2,rfl⟩
  ·simp only[stV,iZ,Stp.val]at *
   unfold Rcd.val at *
   simp[af,ah,ad,ae,aa, *,dw,Heap.aj]
  ·obtain⟨l2,x2,st2,lf2,dd2⟩:=D
   simp only[stV,Stp.val]at *
   unfold Rcd.val at *
   simp[af,ah,ad,ae,aa, *,dw,Heap.aj]
 ·by_cases k1:s.k=1
  ·obtain⟨y,e1,e2⟩:=NY h hs hg hW s.k k1 s.r
   refine⟨y,?_,e2⟩
   refine aG (fn:=Tryz.f18) (c:=fK) rfl (by kernel_rfl) (by kernel_rfl) (by kernel_rfl) (by kernel_rfl) ?_;refine ir _ _ _ _ fun g'=>?_
   have hsh:=yf e2
   unfold mH at *
   generalize outI 24 (bB (runR (L1++L2)))=o at *
   clear e2 h r1 r2 r3
   obtain⟨l,x',st,lf,dd⟩:=d
   obtain⟨k,r,x,n⟩:=s
   simp only at k1
   subst k1
   clear k0
   rcases hsh with ⟨e,rfl⟩ | ⟨D,o2,m1,m2,m3,hD,ho2,rfl⟩
   ·simp only[stV,iZ,Stp.val]at *
    simp[af,ah,ad,ae,aa, *,dw,Heap.aj]
   ·obtain⟨l2,x2,st2,lf2,dd2⟩:=D
    simp only[stV,Stp.val]at *
    simp[af,ah,ad,ae,aa, *,dw,Heap.aj]
  ·have hk:1<s.k:=by
    have:=s.k.toNat_lt
    rw[UInt8.lt_iff_toNat_lt]
    have n0:s.k.toNat≠0:=fun h=>k0 (UInt8.toNat_inj.1 h)
    have n1:s.k.toNat≠1:=fun h=>k1 (UInt8.toNat_inj.1 h)
    show 1<s.k.toNat
    omega
   obtain⟨y,e1,e2⟩:=Qf h hs hg hW s.k hk s.r s.n
   refine⟨y,?_,e2⟩
   refine aG (fn:=Tryz.f18) (c:=fK) rfl (by kernel_rfl) (by kernel_rfl) (by kernel_rfl) (by kernel_rfl) ?_;refine ir _ _ _ _ fun g'=>?_
   have hsh:=yf e2
   unfold mH at *
   generalize outI 24 (bB (runR (L1++L2)))=o at *
   clear e2 h r1 r2 r3 hk
   obtain⟨l,x',st,lf,dd⟩:=d
   obtain⟨k,r,x,n⟩:=s
   simp only at k0 k1
   rcases hsh with ⟨e,rfl⟩ | ⟨D,o2,m1,m2,m3,hD,ho2,rfl⟩
   ·simp only[stV,iZ,Stp.val]at *
    simp[af,ah,ad,ae,aa, *,dw,Heap.aj]
   ·obtain⟨l2,x2,st2,lf2,dd2⟩:=D
    simp only[stV,Stp.val]at *
    simp[af,ah,ad,ae,aa, *,dw,Heap.aj]
end
end Go.Proofs.YtiidajnodhkidaaGreat
namespace Go.Proofs.YtiidajnodhkidaaGreat
open Go.Ab
attribute [local simp] cx bP bT bS keep thr cF bH bU eF eE cM cE aY dq List.take_of_length_le
theorem rz{n:Int}(h : -1≤n∧n<2147483648):Good (fresh n) [] [] 0 0 :=
 ⟨Dn n,Kj h,Int.le_refl 1,Int.le_refl 0,J2 n,trivial,rfl,by decide,rfl,Gx rfl,fun i hi hh=>by rw[BL]at hh;exact absurd hh (by decide)⟩
theorem NF{n:Int}(h : -1≤n∧n<2147483648):limf env 8 [aI n]=some (.tup [mH (fresh n).tw [] 0 0 0,aI 0]):=by
 refine aG (fn:=Tryz.f8) (c:=qQ) rfl (by kernel_rfl) (by kernel_rfl) (by kernel_rfl) (by kernel_rfl) ?_;refine vq _ _ _ fun g=>?_
 have h1:=SN
 have h2:=Ph h
 have h3:=s_Of (Dn n)
 rw[Af (rz h)]at h3
 have hG:=(qL (rz h)).fit.sl.r
 have ho:=(iw 24 (bB (runR ([]++[])))).r.2
 rw[List.nil_append]at h3 ho
 simp only[List.length_nil,Int.natCast_zero]at h3
 unfold mH at *
 generalize (fresh n).tw=D at *
 generalize outI 24 (bB (runR []))=o at *
 obtain⟨l,x,st,lf,dd⟩:=D
 simp only[fresh,Dk.val,dsk,stV,j7]at *
 simp[af,ah,ad,ae,aa, *,rb]
theorem LA{n:Int}(h:n < -1∨2147483648≤n):limf env 8 [aI n]=some (.tup [iZ,aI 2]):=by
 refine aG (fn:=Tryz.f8) (c:=qQ) rfl (by kernel_rfl) (by kernel_rfl) (by kernel_rfl) (by kernel_rfl) ?_;refine vq _ _ _ fun g=>?_
 have h1:=SN
 have h2:=A0 (l:=[]) (x:=aNil) (st:=0) (lf := -1) (dd:=false) (.inl ⟨rfl,rfl⟩) (fun s hs=>by cases hs) (by simp) n
 rw[if_pos (by decide),if_pos (by omega)]at h2
 simp only[dsk,iZ,j7]at *
 simp[af,ah,ad,ae,aa, *,rb]
def rA3:Rcd:=⟨1,3,⟨0,⟨1,1,2⟩,0,⟨⟨⟨0,0,0⟩,0⟩,0⟩,⟨⟨0,0,0⟩,0⟩,⟨0,0⟩,[]⟩,0,0,0,0,false⟩
theorem WW:limf env 10 []=some (rA3.val aNil):=by
 refine aG (fn:=Tryz.f10) (c:=mw) rfl (by kernel_rfl) (by kernel_rfl) (by kernel_rfl) (by kernel_rfl) ?_;refine rI _ _ fun g=>?_
 unfold Rcd.val rA3
 simp[af,ah,ad,ae,aa, *,mz]
theorem s_Is{d:Dk}{L1 L2:List Rcd}{g at':Int}(h:Good d L1 L2 g at'){R:List (Rcd × AV)}{x:AV}(hx:Sl 24 (bB R) x)(hR : ∀p∈R,okRc p)(hl:R.length<1000000)(m k:Int) :
 limf env 15 [mH d (L1++L2) g L1.length at',aI m,aI k,x]=some (aB (kp (L1++L2) (rcs R)&&(decide (d.st=m)&&decide (at'=k)))):=by
 refine aG (fn:=Tryz.f15) (c:=lO) rfl (by kernel_rfl) (by kernel_rfl) (by kernel_rfl) (by kernel_rfl) ?_;refine qq _ _ _ _ _ _ fun g=>?_
 have h1:=Kh h
 have h2:=Kg h
 obtain⟨r1,r2,r3⟩:=kF h
 have h3:=tC r2 hx r1 hR (by omega)
 rw[mB]at h3
 have hv:=h.fit.sl.r
 have ho:=r2.r.2
 have hxr:=hx.r.2
 unfold mH at *
 generalize outI 24 (bB (runR (L1++L2)))=o at *
 generalize (L1.length:Int)=kk at *
 generalize kp (L1++L2) (rcs R)=b at *
 clear h r1 r2 r3 hx hR hl
 obtain⟨l,y,st,lf,dd⟩:=d
 simp only[stV]at *
 cases b with
 | false=>simp[af,ah,ad,ae,aa, *,gG]
 | true =>
  by_cases e:st=m
  ·subst e
   simp[af,ah,ad,ae,aa, *,gG]
  ·simp[af,ah,ad,ae,aa, *,gG]
theorem S6:okRc (rA3,aNil):=⟨.inl ⟨rfl,rfl⟩,by show 0<1000000;omega⟩
theorem Ef:limf env 14 []=some (aB true):=by
 refine aG (fn:=Tryz.f14) (c:=j3) rfl (by kernel_rfl) (by kernel_rfl) (by kernel_rfl) (by kernel_rfl) ?_;refine oB _ _ fun g=>?_
 have ha:=WW
 have h0:=NF (n := -1) (by omega)
 have G0:=qL (rz (n := -1) (by omega))
 have hI:eD rA3=true:=by kernel_rfl
 have hN:recN rA3=1:=by kernel_rfl
 obtain⟨y1,c1,d1⟩:=Qg G0 (by decide) (by omega) (by simp) rA3 (x:=aNil) (.inl ⟨rfl,rfl⟩) (by decide)
 cases d1 with
 | no e he hk=>exact absurd (hI.symm.trans (hk (.inl rfl)).2) (by decide)
 | yes D1 M1 M2 g1 a1 G1 hg1 st1 W1 k1 x1 =>
 obtain⟨dd1,lf1,t1,u1⟩:=x1 rfl rfl (.inl rfl)
 rw[if_pos ⟨rfl,dd1⟩]at W1
 rw[if_neg (by decide)]at st1
 replace t1:=t1 rfl
 replace st1:D1.st=1:=st1
 obtain⟨y2,c2,d2⟩:=Qg G1 (by omega) (by omega) (by rw[W1];simp) rA3 (x:=aNil) (.inl ⟨rfl,rfl⟩) (by decide)
 cases d2 with
 | no e he hk=>exact absurd (hI.symm.trans (hk (.inl rfl)).2) (by decide)
 | yes D2 N1 N2 g2 a2 G2 hg2 st2 W2 k2 x2 =>
 obtain⟨dd2,lf2,t2,u2⟩:=x2 dd1 lf1 (.inl rfl)
 rw[if_pos ⟨rfl,dd2⟩]at W2
 rw[if_neg (by decide)]at st2
 replace t2:=t2 rfl
 obtain⟨y3,c3,d3⟩:=NY G2 (by omega) (by omega) (by rw[W2,W1];simp) 1 rfl rA3
 cases d3 with
 | no e he hk=>exact absurd (hk (.inr rfl)).1 (by decide)
 | yes D3 P1 P2 g3 a3 G3 hg3 st3 W3 k3 x3 =>
 obtain⟨dd3,lf3,u3,t3⟩:=x3 dd2 lf2 (.inr rfl)
 rw[if_neg (fun h=>absurd h.1 (by decide))]at W3
 rw[if_neg (by decide)]at st3
 replace t3:=t3 rfl
 have sx:Sl 24 (bB [(rA3,aNil),(rA3,aNil)]) (.isl 24 [rA3.val aNil,rA3.val aNil] (some 2)) := .inr ⟨some 2,rfl,by simp⟩
 have ok : ∀p∈[(rA3,aNil),(rA3,aNil)],okRc p:=fun p hp=>by
  simp only[List.mem_cons,List.not_mem_nil,or_false,or_self]at hp
  subst hp
  exact S6
 have i1:=s_Is G2 sx ok (by simp) 1 2
 have i2:=s_Is G3 sx ok (by simp) 1 0
 have e1:(kp (N1++N2) (rcs [(rA3,aNil),(rA3,aNil)])&&(decide (D2.st=1)&&decide (a2=2)))=true:=by
  rw[W2,W1,show rcs [(rA3,aNil),(rA3,aNil)]=[]++[]++[rA3]++[rA3] from rfl,kR,show D2.st=1 by omega,show a2=2 by omega];rfl
 have e2:(kp (P1++P2) (rcs [(rA3,aNil),(rA3,aNil)])&&(decide (D3.st=1)&&decide (a3=0)))=true:=by
  rw[W3,W2,W1,show rcs [(rA3,aNil),(rA3,aNil)]=[]++[]++[rA3]++[rA3] from rfl,kR,show D3.st=1 by omega,t3];rfl
 rw[e1]at i1
 rw[e2]at i2
 have f0:=G0.fit.sl.r
 have f1:=G1.fit.sl.r
 have f2:=G2.fit.sl.r
 have f3:=G3.fit.sl.r
 have o0:=(iw 24 (bB (runR (([]:List Rcd)++[])))).r.2
 have o1:=(iw 24 (bB (runR (M1++M2)))).r.2
 have o2:=(iw 24 (bB (runR (N1++N2)))).r.2
 have o3:=(iw 24 (bB (runR (P1++P2)))).r.2
 rw[List.nil_append]at c1 o0
 simp only[List.length_nil,Int.natCast_zero]at c1
 clear u1 u2 u3 e1 e2 W1 W2 W3 t1 t2 t3 st1 st2 st3 k1 k2 k3 dd1 dd2 dd3 lf1 lf2 lf3 G0 G1 G2 G3 sx ok hI hN x1 x2 x3 hg1 hg2 hg3
 unfold mH at *
 generalize outI 24 (bB (runR []))=q0 at *
 generalize outI 24 (bB (runR (M1++M2)))=q1 at *
 generalize outI 24 (bB (runR (N1++N2)))=q2 at *
 generalize outI 24 (bB (runR (P1++P2)))=q3 at *
 generalize (M1.length:Int)=n1 at *
 generalize (N1.length:Int)=n2 at *
 generalize (P1.length:Int)=n3 at *
 generalize (fresh (-1)).tw=D0 at *
 obtain⟨l0,b0,st0,lf0,dd0⟩:=D0
 obtain⟨l1,b1,st1,lf1,dd1⟩:=D1
 obtain⟨l2,b2,st2,lf2,dd2⟩:=D2
 obtain⟨l3,b3,st3,lf3,dd3⟩:=D3
 simp only[stV]at *
 unfold Rcd.val rA3 at *
 simp only at *
 simp[af,ah,ad,ae,aa, *,j6]
end Go.Proofs.YtiidajnodhkidaaGreat
