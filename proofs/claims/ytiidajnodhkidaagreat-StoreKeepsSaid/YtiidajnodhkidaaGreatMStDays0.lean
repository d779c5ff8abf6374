/-
  What is to be shown of each function, computed from its code. No statement of a seat is proved here.
-/
import Derived.Test.YtiidajnodhkidaaGreatStTy
import Derived.Test.YtiidajnodhkidaaGreatStMath
import Derived.Test.YtiidajnodhkidaaGreatStVc10
set_option linter.unusedVariables false
set_option maxRecDepth 1000000
namespace Go.Proofs.YtiidajnodhkidaaGreat
open Go.Ab
noncomputable def mF:Code:=(Tryz.f10.body).getD .skip
def rR:Nat→Option (List Nat):=fun i=>none
def rT:Nat→Bool:=fun i=>false
def mH(g:Nat→AV)(H:Heap)(Q:AV→Heap→Prop):Prop :=
 doW (Zf H 0 51) fun v1 H1 =>
 doQ (bQ env.P 36 (some [(0,(a8 1)),(1,(a32 1))])) fun v2 =>
 doQ (bQ env.P 38 (some [(0,v2),(1,(a8 2))])) fun v3 =>
 doQ (Z0 45 1 v3) fun v4 =>
 doQ (bQ env.P 51 (some [(0,(a8 1)),(1,(.v (.int .i64 3))),(2,v4)])) fun v5 =>
 doW (Zj H1 51 v1 v5) fun v6 H2 =>
 doQ (ZK H2 v1 51) fun v7 =>
 Q v7 H2
theorem rO(H:Heap)(Q:AV→Heap→Prop)(h : ∀g,mH g  H Q):GoL env Tryz.f10 0 [.code mF] [] H Q:=⟨fun g=>bn (live:=rR) (cut:=rT) (n:=500) (Eq.mp (by kernel_rfl) (h g))⟩
noncomputable def j7:Code:=(Tryz.f14.body).getD .skip
def oZ:Nat→Option (List Nat):=fun i=>none
def pb:Nat→Bool:=fun i=>false
def kf(g:Nat→AV)(H:Heap)(Q:AV→Heap→Prop):Prop :=
 doW (Za true H 8 8 [(.v (.int .i64 (-1)))]) fun v1 H1 =>
 doQ (Zx v1 0) fun v2 =>
 doQ (Zx v1 1) fun v3 =>
 doW (Zf H1 1 29) fun v4 H2 =>
 doW (Zj H2 29 v4 v2) fun v5 H3 =>
 doQ (Zb H3 29 v4) fun v6 =>
 doW (Za false H3 13 10 []) fun v7 H4 =>
 doW (Za false H4 14 9 [v6,v7]) fun v8 H5 =>
 doQ (Zx v8 0) fun v9 =>
 doQ (Zx v8 1) fun v10 =>
 doW (Zj H5 29 v4 v9) fun v11 H6 =>
 doQ (Zb H6 29 v4) fun v12 =>
 doW (Za false H6 19 10 []) fun v13 H7 =>
 doW (Za false H7 20 9 [v12,v13]) fun v14 H8 =>
 doQ (Zx v14 0) fun v15 =>
 doQ (Zx v14 1) fun v16 =>
 doW (Zj H8 29 v4 v15) fun v17 H9 =>
 doQ (Zb H9 29 v4) fun v18 =>
 doW (Za true H9 25 11 [v18]) fun v19 H10 =>
 doQ (Zx v19 0) fun v20 =>
 doQ (Zx v19 1) fun v21 =>
 doW (Zf H10 5 29) fun v22 H11 =>
 doW (Zj H11 29 v22 v20) fun v23 H12 =>
 doQ (Zl 30 28 0 v3) fun v24 =>
 gQ v24 true (ZI v10) fun v25 =>
 gQ v24 true (Zl 30 31 0 v25) fun v26 =>
 doQ (Zi v24 v26) fun v27 =>
 gQ v27 true (ZI v16) fun v28 =>
 gQ v27 true (Zl 30 35 0 v28) fun v29 =>
 doQ (Zi v27 v29) fun v30 =>
 gQ v30 true (Zb H12 29 v4) fun v31 =>
 gW v30 true H12 (Za false H12 40 10 []) fun v32 H13 =>
 gW v30 true H13 (Za false H13 41 10 []) fun v33 H14 =>
 gW v30 true H14 (Z4 H14 42 25 2 0 v32 1 v33) fun v34 H15 =>
 gW v30 true H15 (Za false H15 43 15 [v31,(.v (.int .i64 1)),(.v (.int .i64 2)),v34]) fun v35 H16 =>
 doQ (Zi v30 v35) fun v36 =>
 gQ v36 true (ZI v21) fun v37 =>
 gQ v36 true (Zl 30 46 0 v37) fun v38 =>
 doQ (Zi v36 v38) fun v39 =>
 gQ v39 true (Zb H16 29 v22) fun v40 =>
 gW v39 true H16 (Za false H16 51 10 []) fun v41 H17 =>
 gW v39 true H17 (Za false H17 52 10 []) fun v42 H18 =>
 gW v39 true H18 (Z4 H18 53 25 2 0 v41 1 v42) fun v43 H19 =>
 gW v39 true H19 (Za false H19 54 15 [v40,(.v (.int .i64 1)),(.v (.int .i64 0)),v43]) fun v44 H20 =>
 doQ (Zi v39 v44) fun v45 =>
 Q v45 H20
theorem oO(H:Heap)(Q:AV→Heap→Prop)(h : ∀g,kf g  H Q):GoL env Tryz.f14 0 [.code j7] [] H Q:=⟨fun g=>bn (live:=oZ) (cut:=pb) (n:=500) (Eq.mp (by kernel_rfl) (h g))⟩
noncomputable def lT:Code:=(Tryz.f15.body).getD .skip
def qP:Nat→Option (List Nat):=fun i=>none
def qW:Nat→Bool:=fun i=>false
def gM(g:Nat→AV)(x0 x1 x2 x3:AV)(H:Heap)(Q:AV→Heap→Prop):Prop :=
 doW (Zd H 4 29 x0) fun v1 H1 =>
 doQ (Zb H1 29 v1) fun v2 =>
 doW (Za true H1 10 16 [v2]) fun v3 H2 =>
 doQ (Zl 30 10 0 v3) fun v4 =>
 gQ v4 true (Zh 29 v1 1) fun v5 =>
 gQ v4 true (Zb H2 25 v5) fun v6 =>
 gQ v4 true (ZI x3) fun v7 =>
 gW v4 true H2 (Za true H2 16 21 [v6,v7]) fun v8 H3 =>
 doQ (Zi v4 v8) fun v9 =>
 gQ v9 true (Zb H3 29 v1) fun v10 =>
 gW v9 true H3 (Za true H3 20 20 [v10]) fun v11 H4 =>
 gQ v9 true (ZI x1) fun v12 =>
 gQ v9 true (Zo 3 20 21 v11 v12) fun v13 =>
 doQ (Zi v9 v13) fun v14 =>
 gQ v14 true (Zh 29 v1 3) fun v15 =>
 gQ v14 true (Zb H4 3 v15) fun v16 =>
 gQ v14 true (ZI x2) fun v17 =>
 gQ v14 true (Zo 3 26 27 v16 v17) fun v18 =>
 doQ (Zi v14 v18) fun v19 =>
 Q v19 H4
theorem qB(x0 x1 x2 x3:AV)(H:Heap)(Q:AV→Heap→Prop)(h : ∀g,gM g x0 x1 x2 x3 H Q):GoL env Tryz.f15 0 [.code lT] [(0,x0),(1,x1),(2,x2),(3,x3)] H Q:=⟨fun g=>bn (live:=qP) (cut:=qW) (n:=500) (Eq.mp (by kernel_rfl) (h g))⟩
noncomputable def j6:Code:=(Tryz.f24.body).getD .skip
def oY:Nat→Option (List Nat):=fun i=>none
def pa:Nat→Bool:=fun i=>false
def ke(g:Nat→AV)(x0:AV)(H:Heap)(Q:AV→Heap→Prop):Prop :=
 doW (Zd H 1 29 x0) fun v1 H1 =>
 doQ (Zh 29 v1 0) fun v2 =>
 doQ (Zb H1 24 v2) fun v3 =>
 doW (Za true H1 5 23 [v3]) fun v4 H2 =>
 gQ v4 false (Zh 29 v1 1) fun v5 =>
 gQ v4 false (Zb H2 25 v5) fun v6 =>
 gW v4 false H2 (Za true H2 9 37 [v6,(.v (.int .i64 100))]) fun v7 H3 =>
 doQ (Zn v4 v7) fun v8 =>
 Q v8 H3
theorem oM(x0:AV)(H:Heap)(Q:AV→Heap→Prop)(h : ∀g,ke g x0 H Q):GoL env Tryz.f24 0 [.code j6] [(0,x0)] H Q:=⟨fun g=>bn (live:=oY) (cut:=pa) (n:=500) (Eq.mp (by kernel_rfl) (h g))⟩
end Go.Proofs.YtiidajnodhkidaaGreat
set_option linter.unusedSimpArgs false
set_option linter.unusedSectionVars false
set_option linter.unnecessarySimpa false
set_option maxRecDepth 100000
namespace Go.Proofs.YtiidajnodhkidaaGreat
open Go.Ab
attribute [local simp] ct bK bO bN keep thr cC bD bP eE eD cN cB aV dk List.take_of_length_le
def qT(d:Dk)(W:List Rcd)(g k at':Int):AV:=stV d (outI 24 (bG (runR W))) g k at'
theorem QW{W:List Rcd}(h:W.all ej=true) : ∀r∈W,r.op.l.length<1000000:=by
 intro r hr
 have h1:=List.all_eq_true.1 h r hr
 have hp:=F1 h1 []
 have:=uZ (recB r++[])
 rw[hp]at this
 omega
section
variable{d:Dk}{L1 L2:List Rcd}{g at':Int}(h:Good d L1 L2 g at')
include h
theorem qS:stOk d (L1++L2) g L1.length at'=true:=by
 obtain⟨h1,h2,h3,h4⟩:=Kd h
 unfold stOk
 rw[h1,h2,h3,h4,rp]
 simp
theorem z6:ofA d = .tup [qT d.tw (L1++L2) g L1.length at',aI 0]:=by
 obtain⟨h1,h2,h3,h4⟩:=Kd h
 unfold ofA qT
 rw[if_pos h1,h2,h3,h4]
theorem nm:(∀p∈runR (L1++L2),okRc p)∧Sl 24 (bG (runR (L1++L2))) (outI 24 (bG (runR (L1++L2))))∧(runR (L1++L2)).length<1000000:=by
 refine⟨CM (QW h.okW),jh _ _,by rw[nT,List.length_append];have:=BA h;omega⟩
theorem P5:limf env 16 [qT d (L1++L2) g L1.length at']=some (aI 0):=by
 obtain⟨r1,r2,r3⟩:=nm h
 have:=xm h.fit r2 r1 r3 g L1.length at'
 rw[nS,qS h,if_pos rfl]at this
 exact this
theorem P4:limf env 20 [qT d (L1++L2) g L1.length at']=some (aI d.st):=by
 obtain⟨r1,r2,r3⟩:=nm h
 exact O8 h.fit r2 g L1.length at'
end
inductive Did (d:Dk) (W:List Rcd) (g at0:Int) (k:UInt8) (r:Rcd):AV→Prop
 | no (e:Int) (he:e≠0) (hk:k=0∨k=1→k=0∧ej r=false):Did d W g at0 k r (.tup [lY,aI e])
 | yes (D:Dk) (L1 L2:List Rcd) (g' at':Int) (h:Good D L1 L2 g' at') (hg:g'≤g+1) (hst:D.st=if 1<k then d.st+1 else d.st) (hW:L1++L2=if k=0∧D.dd=false then W++[r] else W) (hk:1<k→D.dd=false)
  (hx:d.dd=false→d.lf = -1→k=0∨k=1→D.dd=false∧D.lf = -1∧(k=0→at'=at0+recN r)∧(k=1→at'=0)):Did d W g at0 k r (.tup [qT D (L1++L2) g' L1.length at',aI 0])
section
variable{d:Dk}{L1 L2:List Rcd}{g at':Int}(h:Good d L1 L2 g at')(hs:d.st≤90)(hg:g≤90)(hW:(L1++L2).length<190)
include h hs hg hW
theorem TH(r:Rcd){x:AV}(hx:Sl 1 (rows r.op.l) x)(hl:r.op.l.length<2000000) : ∃y,limf env 9 [qT d (L1++L2) g L1.length at',r.val x]=some y∧Did d (L1++L2) g at' 0 r y:=by
 obtain⟨r1,r2,r3⟩:=nm h
 have hA:=Nz h.fit r2 r1 r3 g L1.length at' r hx hl
 have hE:=xT h (r:=r)
 have ha3:=Gh h
 rw[nS,qS h,nT,hE]at hA
 refine⟨_,hA,?_⟩
 unfold rP
 rw[if_pos rfl]
 cases hI:ej r with
 | false=>exact .no 8 (by decide) fun _=>⟨rfl,hI⟩
 | true =>
  have hrn:=m9 hI
  have hro:at'+recN r≤2048:=by omega
  rw[if_pos rfl,if_pos hro,if_pos rfl]
  rcases Gi h hI hro with ⟨_,hG,hd⟩ | ⟨hG,hd⟩
  ·rw[z6 hG]
   exact .yes _ _ _ _ _ (sY hG) (by omega) (by rw[if_neg (by decide)];exact sA _ _ _ _ _) (by rw[if_pos ⟨rfl,hd⟩,List.append_assoc]) (fun h=>absurd h (by decide)) fun h1 h2 _=>⟨hd,(uL _ d.tw _ h1 h2).1,fun _=>rfl,fun h=>absurd h (by decide)⟩
  ·rw[z6 hG]
   have hd':(d.app 0 at' (↑(L1++L2).length+1) r).tw.dd=true:=hd
   exact .yes _ _ _ _ _ (sY hG) (by omega) (by rw[if_neg (by decide)];exact sA _ _ _ _ _) (by rw[if_neg (fun h=>by rw[hd']at h;cases h.2)]) (fun h=>absurd h (by decide)) fun h1 h2 _=>absurd ((uL _ d.tw _ h1 h2).2.symm.trans hd) (by decide)
theorem TF(k:UInt8)(hk:k=1)(r:Rcd) : ∃y,limf env 11 [qT d (L1++L2) g L1.length at']=some y∧Did d (L1++L2) g at' k r y:=by
 obtain⟨r1,r2,r3⟩:=nm h
 have hA:=Eh h.fit r2 r1 r3 g L1.length at'
 have hr0:=I8 h.okW (by omega)
 rw[nS,qS h,z5 h,if_pos hr0,if_neg (by omega)]at hA
 refine⟨_,hA,?_⟩
 unfold rP
 rw[if_pos rfl,if_pos rfl]
 obtain⟨g',M1,M2,at2,e1,e2,hG,e3,_,e4⟩:=Dg h hr0 (by omega)
 rw[z6 hG]
 subst hk
 exact .yes _ _ _ _ _ (sY hG) e2 (by rw[if_neg (by decide)];exact e3) (by rw[if_neg (fun h=>by cases h.1)];exact e1) (fun h=>absurd h (by decide)) fun h1 h2 _=>⟨(e4 h1 h2).1,(e4 h1 h2).2.1,fun h=>absurd h (by decide),fun _=>(e4 h1 h2).2.2.1⟩
end
structure Stp where
 k:UInt8
 r:Rcd
 x:AV
 n:Int
def Stp.val(s:Stp):AV := .agg [a8 s.k,a8 s.r.kind,aI s.r.user,a8 s.r.op.kind,a8 s.r.op.h.lv,a32 s.r.op.h.cats,a8 s.r.op.h.num,aI s.r.op.serial,a8 s.r.op.s.f.h.lv,a32 s.r.op.s.f.h.cats,a8 s.r.op.s.f.h.num,aI s.r.op.s.f.n,aI s.r.op.s.many,a8 s.r.op.a.h.lv,a32 s.r.op.a.h.cats,a8 s.r.op.a.h.num,aI s.r.op.a.n,
 a8 s.r.op.to.lv,a32 s.r.op.to.cats,s.x,aI s.r.code,aI s.r.gu,a8 s.r.gv,a32 s.r.gc,aB s.r.gok,aI s.n]
section
variable{d:Dk}{L1 L2:List Rcd}{g at':Int}(h:Good d L1 L2 g at')(hs:d.st≤90)(hg:g≤90)(hW:(L1++L2).length<190)
include h hs hg hW
end
end Go.Proofs.YtiidajnodhkidaaGreat
namespace Go.Proofs.YtiidajnodhkidaaGreat
open Go.Ab
attribute [local simp] ct bK bO bN keep thr cC bD bP eE eD cN cB aV dk List.take_of_length_le
theorem vh{n:Int}(h : -1≤n∧n<2147483648):Good (fresh n) [] [] 0 0 :=
 ⟨Dj n,Kl h,Int.le_refl 1,Int.le_refl 0,J8 n,trivial,rfl,by decide,rfl,GB rfl,fun i hi hh=>by rw[BE]at hh;exact absurd hh (by decide)⟩
theorem Sw{n:Int}(h : -1≤n∧n<2147483648):limf env 8 [aI n]=some (.tup [qT (fresh n).tw [] 0 0 0,aI 0]):=by
 refine aH (fn:=Tryz.f8) (c:=vO) rfl (by kernel_rfl) (by kernel_rfl) (by kernel_rfl) (by kernel_rfl) ?_;refine Ck _ _ _ fun g=>?_
 have h1:=WL
 have h2:=O7 h
 have h3:=s_Of (Dj n)
 rw[z6 (vh h)]at h3
 have hG:=(sY (vh h)).fit.sl.r
 have ho:=(jh 24 (bG (runR ([]++[])))).r.2
 rw[List.nil_append]at h3 ho
 simp only[List.length_nil,Int.natCast_zero]at h3
 unfold qT at *
 generalize (fresh n).tw=D at *
 generalize outI 24 (bG (runR []))=o at *
 obtain⟨l,x,st,lf,dd⟩:=D
 simp only[fresh,Dk.val,dsk,stV,lZ]at *
 simp[af,ah,ad,ae,aa, *,vV]
def rA3:Rcd:=⟨1,3,⟨0,⟨1,1,2⟩,0,⟨⟨⟨0,0,0⟩,0⟩,0⟩,⟨⟨0,0,0⟩,0⟩,⟨0,0⟩,[]⟩,0,0,0,0,false⟩
theorem WI:limf env 10 []=some (rA3.val aNil):=by
 refine aH (fn:=Tryz.f10) (c:=mF) rfl (by kernel_rfl) (by kernel_rfl) (by kernel_rfl) (by kernel_rfl) ?_;refine rO _ _ fun g=>?_
 unfold Rcd.val rA3
 simp[af,ah,ad,ae,aa, *,mH]
theorem s_Is{d:Dk}{L1 L2:List Rcd}{g at':Int}(h:Good d L1 L2 g at'){R:List (Rcd × AV)}{x:AV}(hx:Sl 24 (bG R) x)(hR : ∀p∈R,okRc p)(hl:R.length<1000000)(m k:Int) :
 limf env 15 [qT d (L1++L2) g L1.length at',aI m,aI k,x]=some (aB (lK (L1++L2) (rcs R)&&(decide (d.st=m)&&decide (at'=k)))):=by
 refine aH (fn:=Tryz.f15) (c:=lT) rfl (by kernel_rfl) (by kernel_rfl) (by kernel_rfl) (by kernel_rfl) ?_;refine qB _ _ _ _ _ _ fun g=>?_
 have h1:=P5 h
 have h2:=P4 h
 obtain⟨r1,r2,r3⟩:=nm h
 have h3:=CJ r2 hx r1 hR (by omega)
 rw[nS]at h3
 have hv:=h.fit.sl.r
 have ho:=r2.r.2
 have hxr:=hx.r.2
 unfold qT at *
 generalize outI 24 (bG (runR (L1++L2)))=o at *
 generalize (L1.length:Int)=kk at *
 generalize lK (L1++L2) (rcs R)=b at *
 clear h r1 r2 r3 hx hR hl
 obtain⟨l,y,st,lf,dd⟩:=d
 simp only[stV]at *
 cases b with
 | false=>simp[af,ah,ad,ae,aa, *,gM]
 | true =>
  by_cases e:st=m
  ·subst e
   simp[af,ah,ad,ae,aa, *,gM]
  ·simp[af,ah,ad,ae,aa, *,gM]
theorem SR:okRc (rA3,aNil):=⟨.inl ⟨rfl,rfl⟩,by show 0<1000000;omega⟩
theorem Eb:limf env 14 []=some (aB true):=by
 refine aH (fn:=Tryz.f14) (c:=j7) rfl (by kernel_rfl) (by kernel_rfl) (by kernel_rfl) (by kernel_rfl) ?_;refine oO _ _ fun g=>?_
 have ha:=WI
 have h0:=Sw (n := -1) (by omega)
 have G0:=sY (vh (n := -1) (by omega))
 have hI:ej rA3=true:=by kernel_rfl
 have hN:recN rA3=1:=by kernel_rfl
 obtain⟨y1,c1,d1⟩:=TH G0 (by decide) (by omega) (by simp) rA3 (x:=aNil) (.inl ⟨rfl,rfl⟩) (by decide)
 cases d1 with
 | no e he hk=>exact absurd (hI.symm.trans (hk (.inl rfl)).2) (by decide)
 | yes D1 M1 M2 g1 a1 G1 hg1 st1 W1 k1 x1 =>
 obtain⟨dd1,lf1,t1,u1⟩:=x1 rfl rfl (.inl rfl)
 rw[if_pos ⟨rfl,dd1⟩]at W1
 rw[if_neg (by decide)]at st1
 replace t1:=t1 rfl
 replace st1:D1.st=1:=st1
 obtain⟨y2,c2,d2⟩:=TH G1 (by omega) (by omega) (by rw[W1];simp) rA3 (x:=aNil) (.inl ⟨rfl,rfl⟩) (by decide)
 cases d2 with
 | no e he hk=>exact absurd (hI.symm.trans (hk (.inl rfl)).2) (by decide)
 | yes D2 N1 N2 g2 a2 G2 hg2 st2 W2 k2 x2 =>
 obtain⟨dd2,lf2,t2,u2⟩:=x2 dd1 lf1 (.inl rfl)
 rw[if_pos ⟨rfl,dd2⟩]at W2
 rw[if_neg (by decide)]at st2
 replace t2:=t2 rfl
 obtain⟨y3,c3,d3⟩:=TF G2 (by omega) (by omega) (by rw[W2,W1];simp) 1 rfl rA3
 cases d3 with
 | no e he hk=>exact absurd (hk (.inr rfl)).1 (by decide)
 | yes D3 P1 P2 g3 a3 G3 hg3 st3 W3 k3 x3 =>
 obtain⟨dd3,lf3,u3,t3⟩:=x3 dd2 lf2 (.inr rfl)
 rw[if_neg (fun h=>absurd h.1 (by decide))]at W3
 rw[if_neg (by decide)]at st3
 replace t3:=t3 rfl
 have sx:Sl 24 (bG [(rA3,aNil),(rA3,aNil)]) (.isl 24 [rA3.val aNil,rA3.val aNil] (some 2)) := .inr ⟨some 2,rfl,by simp⟩
 have ok : ∀p∈[(rA3,aNil),(rA3,aNil)],okRc p:=fun p hp=>by
  simp only[List.mem_cons,List.not_mem_nil,or_false,or_self]at hp
  subst hp
  exact SR
 have i1:=s_Is G2 sx ok (by simp) 1 2
 have i2:=s_Is G3 sx ok (by simp) 1 0
 have e1:(lK (N1++N2) (rcs [(rA3,aNil),(rA3,aNil)])&&(decide (D2.st=1)&&decide (a2=2)))=true:=by
  rw[W2,W1,show rcs [(rA3,aNil),(rA3,aNil)]=[]++[]++[rA3]++[rA3] from rfl,rp,show D2.st=1 by omega,show a2=2 by omega];rfl
 have e2:(lK (P1++P2) (rcs [(rA3,aNil),(rA3,aNil)])&&(decide (D3.st=1)&&decide (a3=0)))=true:=by
  rw[W3,W2,W1,show rcs [(rA3,aNil),(rA3,aNil)]=[]++[]++[rA3]++[rA3] from rfl,rp,show D3.st=1 by omega,t3];rfl
 rw[e1]at i1
 rw[e2]at i2
 have f0:=G0.fit.sl.r
 have f1:=G1.fit.sl.r
 have f2:=G2.fit.sl.r
 have f3:=G3.fit.sl.r
 have o0:=(jh 24 (bG (runR (([]:List Rcd)++[])))).r.2
 have o1:=(jh 24 (bG (runR (M1++M2)))).r.2
 have o2:=(jh 24 (bG (runR (N1++N2)))).r.2
 have o3:=(jh 24 (bG (runR (P1++P2)))).r.2
 rw[List.nil_append]at c1 o0
 simp only[List.length_nil,Int.natCast_zero]at c1
 clear u1 u2 u3 e1 e2 W1 W2 W3 t1 t2 t3 st1 st2 st3 k1 k2 k3 dd1 dd2 dd3 lf1 lf2 lf3 G0 G1 G2 G3 sx ok hI hN x1 x2 x3 hg1 hg2 hg3
 unfold qT at *
 generalize outI 24 (bG (runR []))=q0 at *
 generalize outI 24 (bG (runR (M1++M2)))=q1 at *
 generalize outI 24 (bG (runR (N1++N2)))=q2 at *
 generalize outI 24 (bG (runR (P1++P2)))=q3 at *
 generalize (M1.length:Int)=n1 at *
 generalize (N1.length:Int)=n2 at *
 generalize (P1.length:Int)=n3 at *
 generalize (fresh (-1)).tw=D0 at *
 obtain⟨l0,b0,st0,lf0,dd0⟩:=D0
 obtain⟨l1,b1,st1,lf1,dd1⟩:=D1
 obtain⟨l2,b2,st2,lf2,dd2⟩:=D2
 obtain⟨l3,b3,st3,lf3,dd3⟩:=D3
 simp only[stV]at *
 unfold Rcd.val rA3 at *
 simp only at *
 simp[af,ah,ad,ae,aa, *,kf]
end Go.Proofs.YtiidajnodhkidaaGreat
