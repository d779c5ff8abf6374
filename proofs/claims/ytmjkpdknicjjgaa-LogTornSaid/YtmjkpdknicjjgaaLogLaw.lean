/-
  Records put one behind the other, and whether an area has them. No statement of a seat is proved here.
-/
import Derived.Test.YtmjkpdknicjjgaaLogMath
set_option linter.unusedVariables false
set_option linter.unusedSimpArgs false
set_option linter.unusedSectionVars false
set_option linter.unnecessarySimpa false
set_option maxRecDepth 100000
namespace Go.Proofs.Ytmjkpdknicjjgaa
open Go.Ab
attribute [local simp] cb bE bL bK keep thr cE bC bM eT eS bZ cD aW df List.take_of_length_le
theorem Pv:limf env 10 []=some (dsk aNil 0 (-1) false):=by
 refine aH (fn:=Try.f10) (c:=rG) rfl (by kernel_rfl) (by kernel_rfl) (by kernel_rfl) (by kernel_rfl) ?_;refine Cb _ _ fun g=>?_
 simp [af,ah,ab,ad,aa, *,rM,dsk]
def fresh (n:Int):Dk:=⟨[],aNil,1,n,false⟩
theorem vU (n:Int):(fresh n).Fit:=⟨.inl ⟨rfl,rfl⟩,fun s hs=>(by cases hs),by simp [fresh]⟩
theorem vT {n:Int} (h : -1≤n∧n<2147483648):(fresh n).may=true:=by
 unfold Dk.may dOk dhOk fresh ascS
 simp
 omega
theorem Kt (n q:Int):(fresh n).rd q=zer:=rfl
theorem Gt {n:Int} (h : -1≤n∧n<2147483648):limf env 9 [dsk aNil 0 (-1) false,aI n]=some (.tup [(fresh n).val,aI 0]):=by
 have:=DE (l:=[]) (x:=aNil) (st:=0) (lf := -1) (dd:=false) (.inl ⟨rfl,rfl⟩) (fun s hs=>by cases hs) (by simp) n
 rw [if_pos (by decide),if_neg (by omega),if_neg (by decide)] at this
 exact this
def Dk.again (d:Dk) (n:Int):Dk:=⟨twL d.l,vw (twA d.x d.l),d.st+1,n,false⟩
theorem Mu {d:Dk} (hf:d.Fit) (hm:d.may=true) {n:Int} (h : -1≤n∧n<2147483648) (hst:d.st+1<2147483648):limf env 9 [d.val,aI n]=some (.tup [(d.again n).val,aI 0]):=by
 have:=DE (st:=d.st) (lf:=d.lf) (dd:=d.dd) hf.sl hf.ok (by have:=hf.len;omega) n
 rw [if_pos (show dOk d.l d.st d.lf d.dd=true from hm),if_neg (by omega),if_neg (by omega)] at this
 exact this
theorem IB {d:Dk} (h:d.Fit) (n:Int):(d.again n).Fit:=⟨LI h.sl,xH _,by show (twL d.l).length<_;rw [FP];exact h.len⟩
theorem z1 (d:Dk) (n q:Int):(d.again n).rd q=d.rd q:=GK _ _
theorem IA {d:Dk} (hm:d.may=true) {n:Int} (h : -1≤n∧n<2147483648) (hst:d.st+1<2147483648):(d.again n).may=true:=by
 have ha:=vC hm
 unfold Dk.may dOk at hm ⊢
 show (ascS (-1) (twL d.l)&&_)=true
 rw [xG,ha]
 show (true&&dhOk (d.st+1) n false)=true
 unfold dhOk at hm ⊢
 rw [ha] at hm
 simp at hm
 simp
 omega
def putR (d:Dk) (at' nu:Int):List Rcd→Dk × Int × Bool
 | []=>(d,at',true)
 | r :: L=>if appE d 0 at' nu r=0 then putR (d.app 0 at' nu r) (at'+recN r) (nu+1) L else (d,at',false)
theorem DN : ∀(L:List Rcd) (d:Dk) (at' nu:Int),d.Fit→d.may=true→(putR d at' nu L).1.Fit∧(putR d at' nu L).1.may=true:=by
 intro L
 induction L with
 | nil=>intro d at' nu h hm;exact ⟨h,hm⟩
 | cons r L ih =>
  intro d at' nu h hm
  unfold putR
  split
  ·rename_i h0
   have:=yj h h0
   exact ih _ _ _ this.1 this.2.1
  ·exact ⟨h,hm⟩
theorem JT : ∀(L:List Rcd) (d:Dk) (at' nu:Int),d.Fit→d.may=true→d.dd=false→d.lf = -1→(∀q,at'≤q→q<2048→d.rd q=zer)→(putR d at' nu L).2.2=true →
 chain (putR d at' nu L).1 0 nu at' L∧(putR d at' nu L).2.1=at'+sumN L∧(∀q,at'+sumN L≤q→q<2048→(putR d at' nu L).1.rd q=zer)∧(∀q,q<at'→(putR d at' nu L).1.rd q=d.rd q)∧(at'≤2048→at'+sumN L≤2048):=by
 intro L
 induction L with
 | nil=>intro d at' nu h hm h1 h2 hz _;exact ⟨trivial,by simp [putR,sumN],by simpa [putR,sumN] using hz,fun _ _=>rfl,by simp [sumN]⟩
 | cons r L ih =>
  intro d at' nu h hm h1 h2 hz ht
  unfold putR at ht ⊢
  split at ht
  ·rename_i h0
   rw [if_pos h0]
   obtain ⟨a1,a2,_,⟨g1,g2,g3,g4,g5,g6,g7⟩,hI,hr,hh⟩:=yj h h0
   have ai:=Iv h1 h2 0 at' nu r
   have hrd:=fun q=>Iu (d:=d) (by omega) hI 0 at' nu q
   simp only [Ig h1 h2,Int.zero_mul,Int.zero_add] at hrd
   have hn:=jk hI
   obtain ⟨i1,i2,i3,i4,i5⟩:=ih (d.app 0 at' nu r) (at'+recN r) (nu+1) a1 a2 ai.2 ai.1 (fun q hq hq2=>by rw [hrd,if_neg (by omega)];exact hz q (by omega) hq2) ht
   refine ⟨⟨?_,i1⟩,?_,fun q hq hq2=>i3 q (by simp [sumN] at hq;omega) hq2,fun q hq=>?_,fun _=>?_⟩
   ·refine uS hI hh hr fun i hi=>?_
    rw [Int.zero_add,i4 _ (by omega),hrd,if_pos (by omega)]
    congr 1
    omega
   ·rw [i2];simp [sumN];omega
   ·rw [i4 q (by omega),hrd,if_neg (by omega)]
   ·have:=i5 hr;simp [sumN];omega
  ·cases ht
theorem Gb {d:Dk} {p nu most:Int} : ∀(m:Nat) (at':Int) (n:Nat),(∀r∈(gY d p nu most m at' n).1,r.op.l.length<1000000)∧(gY d p nu most m at' n).1.length≤m:=by
 intro m
 induction m with
 | zero=>intro at' n;exact ⟨fun r hr=>(by cases hr),Nat.le_refl _⟩
 | succ m ih =>
  intro at' n
  unfold gY
  split
  ·split
   ·rename_i r k hw
    have:=ih (at'+k) (n+1)
    refine ⟨fun q hq=>?_,by simp;exact this.2⟩
    rcases List.mem_cons.1 hq with rfl | hq
    ·exact (uT hw).2.2.2
    ·exact this.1 q hq
   ·exact ⟨fun r hr=>(by cases hr),by simp⟩
  ·exact ⟨fun r hr=>(by cases hr),by simp⟩
theorem DH {l:List Rcd} (h : ∀r∈l,r.op.l.length<1000000) : ∀p∈runR l,okRc p:=by
 intro p hp
 obtain ⟨r,hr,rfl⟩:=List.mem_map.1 hp
 exact ⟨lg _,h r hr⟩
section
variable {l:List (Rcd × AV)} {x:AV} (hx:Sl 24 (du l) x) (hl : ∀p∈l,okRc p) (hbig:l.length<100000)
include hx hl hbig
theorem JS {nu:Int} (hnu:0≤nu∧nu<1000000) {Q:AV→Heap→Prop} : ∀(s:List (Rcd × AV)) (k:Nat) (i at':Int) (d:Dk) (H:Heap),l.drop k=s→k≤l.length→i=k→d.Fit→d.may=true→Fr H →
 H.get ⟨0,4,0,0⟩=some ⟨4,[d.val],false,false⟩→H.get ⟨0,8,0,0⟩=some ⟨4,[m9],false,false⟩ →
 (∀H',Q (.tup [(putR d at' (nu+k) (rcs s)).1.val,aI (putR d at' (nu+k) (rcs s)).2.1,aB (putR d at' (nu+k) (rcs s)).2.2]) H') →
 GoL env Try.f11 0 dH [(8,.ptr ⟨0,8,0,0⟩ 0 0),(1,aI at'),(4,.ptr ⟨0,4,0,0⟩ 0 0),(11,aI i),(3,x),(2,aI nu)] H Q:=by
 intro s
 induction s with
 | nil =>
  rintro k i at' d H hs hk rfl hf hm hF h4 h8 hQ
  obtain rfl:=drop_nil hs hk
  have hQ':=hQ
  have hxv:=hf.sl.r
  refine fZ _ _ _ _ _ _ _ _ fun g=>?_
  clear hQ hf hm hl
  obtain ⟨ll,y,st,lf,dd⟩:=d
  simp only [rcs,List.map_nil,putR,Dk.val,dsk,m9] at hQ' hxv h4 h8
  have l8:(H.get ⟨0,8,0,0⟩).isSome=true:=by rw [h8];rfl
  simp [af,ah,ab,ad,aa, *,dJ,Heap.aj,hx.r]
 | cons p s ih =>
  rintro k i at' d H hs hk rfl hf hm hF h4 h8 hQ
  obtain ⟨hlt,hg,hs',hg'⟩:=drop_cons hs
  have hp:=hl p (hg ▸ List.getElem_mem _)
  have e1:=IntWalk.i64_in (nu+k) (by omega)
  have e2:=IntWalk.i64_in ((k:Int)+1) (by omega)
  have hA:=zb hf p.1 hp.1 (by have:=hp.2;omega) 0 at' (nu+k)
  have hrd:ej (du l) k 0 24 true=some (p.1.val p.2):=by simp [du,hg',Rcd.val]
  have hkl:(k:Int)<l.length:=by omega
  have hxv:=hf.sl.r
  have hpr:=hp.1.r
  unfold appA at hA
  by_cases h0:appE d 0 at' (nu+k) p.1=0
  ·rw [if_pos h0] at hA
   obtain ⟨a1,a2,_⟩:=yj hf h0
   have hih:=fun H'=>ih (k+1) ((k:Int)+1) (at'+recN p.1) (d.app 0 at' (nu+k) p.1) H' hs' (by omega) (by simp) a1 a2
   have hQ' : ∀H',Q (.tup [(putR (d.app 0 at' (nu+k) p.1) (at'+recN p.1) (nu+(k+1:Nat)) (rcs s)).1.val,aI (putR (d.app 0 at' (nu+k) p.1) (at'+recN p.1) (nu+(k+1:Nat)) (rcs s)).2.1,aB (putR (d.app 0 at' (nu+k) p.1) (at'+recN p.1) (nu+(k+1:Nat)) (rcs s)).2.2]) H':=by
    intro H'
    have:=hQ H'
    rw [show rcs (p :: s)=p.1 :: rcs s from rfl] at this
    unfold putR at this
    rw [if_pos h0] at this
    rw [show nu+((k+1:Nat):Int)=nu+k+1 by omega]
    exact this
   have hih:=fun H' b1 b2 b3=>hih H' b1 b2 b3 hQ'
   have hxv':=a1.sl.r
   clear ih hQ hQ' hf hm a1 a2 hl h0
   generalize d.app 0 at' (nu+k) p.1=d' at *
   refine fZ _ _ _ _ _ _ _ _ fun g=>?_
   obtain ⟨ll,y,st,lf,dd⟩:=d
   obtain ⟨ll',y',st',lf',dd'⟩:=d'
   simp only [Dk.val,dsk,m9] at *
   unfold Rcd.val at hA hrd
   have l4:(H.get ⟨0,4,0,0⟩).isSome=true:=by rw [h4];rfl
   have l8:(H.get ⟨0,8,0,0⟩).isSome=true:=by rw [h8];rfl
   simp [af,ah,ab,ad,aa, *,dJ,Heap.aj,hx.r,hx.idx]
   exact hih _ (by simp (maxDischargeDepth:=12) [Heap.aj,ar,an,Fr.nil,aA,af,ah,ab,ad,au,ak,aa, *]) (by simp (maxDischargeDepth:=12) [Heap.aj,ar,an,Fr.nil,aA,af,ah,ab,ad,au,ak,aa, *]) (by simp (maxDischargeDepth:=12) [Heap.aj,ar,an,Fr.nil,aA,af,ah,ab,ad,au,ak,aa, *])
  ·rw [if_neg h0] at hA
   have hQ' : ∀H',Q (.tup [d.val,aI at',aB false]) H':=by
    intro H'
    have:=hQ H'
    rw [show rcs (p :: s)=p.1 :: rcs s from rfl] at this
    unfold putR at this
    rw [if_neg h0] at this
    exact this
   clear ih hQ hf hm hl
   refine fZ _ _ _ _ _ _ _ _ fun g=>?_
   generalize appE d 0 at' (nu+k) p.1=er at *
   obtain ⟨ll,y,st,lf,dd⟩:=d
   simp only [Dk.val,dsk,m9] at *
   unfold Rcd.val at hA hrd
   have l4:(H.get ⟨0,4,0,0⟩).isSome=true:=by rw [h4];rfl
   have l8:(H.get ⟨0,8,0,0⟩).isSome=true:=by rw [h8];rfl
   simp [af,ah,ab,ad,aa, *,dJ,Heap.aj,hx.r,hx.idx]
theorem S7 {d:Dk} (hf:d.Fit) (hm:d.may=true) (at':Int) {nu:Int} (hnu:0≤nu∧nu<1000000):limf env 11 [d.val,aI at',aI nu,x]=some (.tup [(putR d at' nu (rcs l)).1.val,aI (putR d at' nu (rcs l)).2.1,aB (putR d at' nu (rcs l)).2.2]):=by
 refine aH (fn:=Try.f11) (c:=fy) rfl (by kernel_rfl) (by kernel_rfl) (by kernel_rfl) (by kernel_rfl) ?_;refine pd _ _ _ _ _ _ fun g=>?_
 have hfit:=(DN (rcs l) d at' nu hf hm).1.sl.r
 have hlo:=JS hx hl hbig hnu (Q:=fun v H=>iE env 11 v H (.tup [(putR d at' nu (rcs l)).1.val,aI (putR d at' nu (rcs l)).2.1,aB (putR d at' nu (rcs l)).2.2])) l 0 0 at' d
 have hfin : ∀H',iE env 11 (.tup [(putR d at' (nu+(0:Nat)) (rcs l)).1.val,aI (putR d at' (nu+(0:Nat)) (rcs l)).2.1,aB (putR d at' (nu+(0:Nat)) (rcs l)).2.2]) H' (.tup [(putR d at' nu (rcs l)).1.val,aI (putR d at' nu (rcs l)).2.1,aB (putR d at' nu (rcs l)).2.2]):=by
  intro H'
  rw [show nu+((0:Nat):Int)=nu by omega]
  generalize putR d at' nu (rcs l)=q at *
  obtain ⟨⟨ll,y,st,lf,dd⟩,q2,q3⟩:=q
  simp only [Dk.val,dsk] at hfit ⊢
  simp [hfit]
 have hlo2:=fun H a1 a2 a3=>hlo H rfl (by omega) rfl hf hm a1 a2 a3 hfin
 have hxv:=hf.sl.r
 clear hlo hfin hf hm hl hfit
 generalize putR d at' nu (rcs l)=q at *
 obtain ⟨ll,y,st,lf,dd⟩:=d
 simp only [Dk.val,dsk,m9] at *
 simp [af,ah,ab,ad,aa, *,hJ,hx.r]
 exact hlo2 _ (by simp (maxDischargeDepth:=12) [Heap.aj,ar,an,Fr.nil,aA,af,ah,ab,ad,au,ak,aa, *]) (by simp (maxDischargeDepth:=12) [Heap.aj,ar,an,Fr.nil,aA,af,ah,ab,ad,au,ak,aa, *]) (by simp (maxDischargeDepth:=12) [Heap.aj,ar,an,Fr.nil,aA,af,ah,ab,ad,au,ak,aa, *])
theorem Gl {d:Dk} (hf:d.Fit) (hm:d.may=true) (at':Int):limf env 17 [d.val,aI at',x]=some (aB (decide ((gY d 0 0 1000 2049 0 0).2=at')&&rf (gY d 0 0 1000 2049 0 0).1 (rcs l))):=by
 refine aH (fn:=Try.f17) (c:=gZ) rfl (by kernel_rfl) (by kernel_rfl) (by kernel_rfl) (by kernel_rfl) ?_;refine pe _ _ _ _ _ fun g=>?_
 have hs:=Ml hf hm (area:=0) (nu:=0) (most:=1000) (by omega) (by omega) (by omega)
 rw [Int.zero_mul] at hs
 have hok : ∀p∈runR (gY d 0 0 1000 2049 0 0).1,okRc p:=DH (Gb 2049 0 0).1
 have hlen:(runR (gY d 0 0 1000 2049 0 0).1).length<1000000:=by rw [Jx];have:=(Gb (d:=d) (p:=0) (nu:=0) (most:=1000) 2049 0 0).2;omega
 have hsm:=Gp (G4 24 (du (runR (gY d 0 0 1000 2049 0 0).1))) hx hok hl hlen
 rw [Jw] at hsm
 have hxv:=hf.sl.r
 have hor:=(G4 24 (du (runR (gY d 0 0 1000 2049 0 0).1))).r
 clear hf hm hl hok hlen
 generalize gY d 0 0 1000 2049 0 0=q at *
 generalize outI 24 (du (runR q.1))=o at *
 obtain ⟨ll,y,st,lf,dd⟩:=d
 simp only [Dk.val,dsk,m9] at *
 cases hc:decide (q.2=at') with
 | true=>simp [af,ah,ab,ad,aa, *,fB,hx.r]
 | false=>simp [af,ah,ab,ad,aa, *,fB,hx.r]
end
end Go.Proofs.Ytmjkpdknicjjgaa
