/-
  Which records are there, by place: plain laws. No statement of a seat is proved here.
-/
import Derived.Test.YtiidajnodhkidaaGreatLogAll
set_option linter.unusedVariables false
set_option linter.unusedSimpArgs false
set_option linter.unusedSectionVars false
set_option linter.unnecessarySimpa false
set_option maxRecDepth 100000
namespace Go.Proofs.YtiidajnodhkidaaGreat
open Go.Ab
theorem rK(d:Dk)(p:Int)(n:Nat){i:Nat}(h:i<n):(gG d p n)[i]?=some (d.rd (p+i)):=by simp[gG,h]
theorem vN{d d':Dk}{p:Int}{n:Nat}(h : ∀i:Nat,i<n→d'.rd (p+i)=d.rd (p+i)):gG d' p n=gG d p n:=by
 unfold gG
 exact List.map_congr_left fun i hi=>h i (List.mem_range.1 hi)
theorem pk{d d':Dk}{p at' nu:Int}(h : ∀i:Int,0≤i→at'+i<2048→d'.rd (p+i)=d.rd (p+i)):gp d' p at' nu=gp d p at' nu:=by
 unfold gp
 by_cases h1:2048≤at'
 ·rw[if_pos h1,if_pos h1]
 ·rw[if_neg h1,if_neg h1]
  have h0:d'.rd p=d.rd p:=by simpa using h 0 (by omega) (by omega)
  rw[h0]
  split
  ·rename_i h2
   simp only[Bool.and_eq_true,decide_eq_true_eq]at h2
   have hof:=PV h2.1
   rw[vN fun i hi=>h i (by omega) (by omega)]
  ·rfl
theorem GC{d d':Dk}{p at' nu:Int}{r:Rcd}{k:Nat}(hw:gp d p at' nu=some (r,k))(h : ∀i:Nat,i<k→d'.rd (p+i)=d.rd (p+i)):gp d' p at' nu=some (r,k):=by
 have hle:=qv hw
 unfold gp at hw ⊢
 split at hw
 ·cases hw
 ·rename_i h1
  rw[if_neg h1]
  have h0:d'.rd p=d.rd p:=by simpa using h 0 (by omega)
  rw[h0]
  split at hw
  ·rename_i h2
   rw[if_pos h2]
   have hk:(hdOf (d.rd p)).of.toNat=k:=by
    cases hg:getR (gG d p (hdOf (d.rd p)).of.toNat) with
    | none=>rw[hg]at hw;cases hw
    | some q=>rw[hg]at hw;simp at hw;exact hw.2
   rw[vN (d:=d) (d':=d') fun i hi=>h i (by omega)]
   exact hw
  ·cases hw
theorem QT{d:Dk}{p:Int}{B:List (List UInt8)}(h : ∀i:Nat,i<B.length→d.rd (p+i)=B.getD i []):gG d p B.length=B:=by
 apply List.ext_getElem?
 intro i
 by_cases hi:i<B.length
 ·rw[rK d p _ hi,h i hi,List.getElem?_eq_getElem hi]
  simp[List.getD,hi]
 ·rw[List.getElem?_eq_none (by simp;omega),List.getElem?_eq_none (by omega)]
theorem Cf{d:Dk}{p at' st nu:Int}{r:Rcd}(hI:ej r=true)(hh:kZ st nu 0 (recN r)=true)(hroom:at'+recN r≤2048)(h : ∀i:Nat,i<recN r→d.rd (p+i)=(dF r st nu).getD i []):gp d p at' nu=some (r,recN r):=by
 have hn:=m9 hI
 have hlen:=fc hI st nu
 have h0:(dF r st nu)[0]?=some (d.rd p):=by
  have:=h 0 (by omega)
  rw[List.getElem?_eq_getElem (by omega)]
  simp only[Int.natCast_zero,Int.add_zero]at this
  rw[this]
  simp[List.getD,show 0<(dF r st nu).length by omega]
 obtain⟨e1,e2,_⟩:=j5 hh h0 (by omega)
 unfold gp
 rw[if_neg (by omega),e1,e2,if_pos (by simp;omega)]
 have:(Hd.mk st nu ((0:Nat):Int) (recN r)).of.toNat=(dF r st nu).length:=by rw[hlen];rfl
 rw[this,QT (by rw[hlen];exact h),EO hI hh,hlen]
 rfl
theorem Gf:kD zer=false:=by
 unfold kD zer
 rw[List.length_replicate]
 have:(hdOf (List.replicate 128 0)).st=0:=by decide
 unfold kZ
 rw[this]
 rfl
theorem GB{d:Dk}{p at' nu:Int}(h:d.rd p=zer):gp d p at' nu=none:=by
 unfold gp
 rw[h,Gf]
 simp
theorem w7{d:Dk}{p at' nu:Int}(h:kD (d.rd p)=true→(hdOf (d.rd p)).nu≠nu):gp d p at' nu=none:=by
 unfold gp
 split
 ·rfl
 ·split
  ·rename_i h2
   simp only[Bool.and_eq_true,decide_eq_true_eq]at h2
   exact absurd h2.2.1 (h h2.1)
  ·rfl
def sumN:List Rcd→Nat
 | []=>0
 | r :: L=>recN r+sumN L
def chain(d:Dk)(p:Int):Int→Int→List Rcd→Prop
 | _,_,[]=>True
 | nu,at',r :: L=>gp d (p+at') at' nu=some (r,recN r)∧chain d p (nu+1) (at'+recN r) L
theorem Lm(L M:List Rcd):sumN (L++M)=sumN L+sumN M:=by
 induction L with
 | nil=>simp[sumN]
 | cons r L ih=>simp[sumN,ih];omega
theorem HN{d:Dk}{p:Int}{r:Rcd} : ∀(L:List Rcd)(nu at':Int),chain d p nu at' L→gp d (p+(at'+sumN L)) (at'+sumN L) (nu+L.length)=some (r,recN r)→chain d p nu at' (L++[r]):=by
 intro L
 induction L with
 | nil=>intro nu at' _ h;exact⟨by simpa [sumN] using h,trivial⟩
 | cons a L ih =>
  intro nu at' h hw
  refine⟨h.1,ih _ _ h.2 ?_⟩
  rw[show at'+recN a+sumN L=at'+(sumN (a :: L):Nat) by simp[sumN];omega,show nu+1+L.length=nu+((a :: L).length:Nat) by simp;omega]
  exact hw
theorem k9{d d':Dk}{p:Int} : ∀(L:List Rcd)(nu at':Int),chain d p nu at' L→(∀q,p+at'≤q→q<p+at'+sumN L→d'.rd q=d.rd q)→chain d' p nu at' L:=by
 intro L
 induction L with
 | nil=>intro nu at' _ _;trivial
 | cons a L ih =>
  intro nu at' h hq
  simp only[sumN]at hq
  exact⟨GC h.1 fun i hi=>hq _ (by omega) (by omega),ih _ _ h.2 fun q h1 h2=>hq q (by omega) (by omega)⟩
theorem uh{d:Dk}{p:Int} : ∀(L:List Rcd)(nu at':Int),chain d p nu at' L→L.length≤sumN L:=by
 intro L
 induction L with
 | nil=>intro nu at' _;simp
 | cons a L ih =>
  intro nu at' h
  have:=ih _ _ h.2
  have:=qv h.1
  simp[sumN]
  omega
theorem GQ{d:Dk}{p nu most:Int} : ∀(L:List Rcd)(m:Nat)(at':Int)(n:Nat),chain d p (nu+n+1) at' L→gp d (p+(at'+sumN L)) (at'+sumN L) (nu+n+L.length+1)=none→(n:Int)+L.length<most→L.length<m→fu d p nu most m at' n=(L,at'+sumN L):=by
 intro L
 induction L with
 | nil =>
  intro m at' n _ h hm hl
  obtain⟨m,rfl⟩ : ∃m',m=m'+1:=⟨m - 1,by simp at hl;omega⟩
  simp[sumN]at h
  unfold fu
  rw[if_pos (by simp at hm;exact hm),h]
  simp[sumN]
 | cons a L ih =>
  intro m at' n hc h hm hl
  obtain⟨m,rfl⟩ : ∃m',m=m'+1:=⟨m - 1,by simp at hl;omega⟩
  simp only[List.length_cons]at h hm hl
  have h2:=ih m (at'+recN a) (n+1) (by have:=hc.2;rw[show nu+((n+1:Nat):Int)+1=nu+n+1+1 by omega];exact this)
   (by rw[show at'+recN a+sumN L=at'+(sumN (a :: L):Nat) by simp[sumN];omega,show nu+((n+1:Nat):Int)+L.length+1=nu+n+((L.length+1:Nat):Int)+1 by omega];exact h) (by omega) (by omega)
  unfold fu
  rw[if_pos (by omega),hc.1]
  simp only
  rw[h2]
  simp[sumN]
  omega
theorem Sa(d:Dk)(n:Nat):d.tw.can n=d.can n:=rfl
theorem Uf{d:Dk}(hlf : -1≤d.lf){r:Rcd}(hI:ej r=true)(area at' nu q:Int):(d.app area at' nu r).rd q=if area * 2048+at'≤q∧q<area * 2048+at'+d.can (recN r) then (dF r d.st nu).getD (q - (area * 2048+at')).toNat [] else d.rd q:=by
 unfold Dk.app
 rw[Fy _ _ _ _ (show -1≤d.tw.lf from hlf),GM,Sa,fc hI]
theorem sA(d:Dk)(area at' nu:Int)(r:Rcd):(d.app area at' nu r).st=d.st:=Fx 0 _ _ _
theorem Ak{d:Dk}(hf:d.Fit){area at' nu:Int}{r:Rcd}(h:appE d area at' nu r=0):(d.app area at' nu r).Fit∧(d.app area at' nu r).may=true∧d.may=true∧(0≤area∧area≤2∧0≤at'∧at'≤2048∧1≤d.st∧1≤nu∧nu<16777216)∧ej r=true∧at'+recN r≤2048∧kZ d.st nu 0 (recN r)=true:=by
 unfold appE at h
 split at h
 ·rename_i hm
  split at h
  ·rename_i hg
   split at h
   ·rename_i hI
    split at h
    ·rename_i hr
     have hst:d.st<2147483648:=by
      have:=hm
      unfold Dk.may dOk dhOk at this
      simp at this
      omega
     have hn:=m9 hI
     have hh:kZ d.st nu 0 (recN r)=true:=by
      unfold kZ
      simp
      omega
     have:=Ni (dF r d.st nu) d.tw (area * 2048+at') (tx hf) (by rw[Il,hm]) (by omega) (by rw[fc hI];omega) (DK hI hh)
     exact⟨this.1,this.2,hm,hg,hI,hr,hh⟩
    ·cases h
   ·cases h
  ·cases h
 ·cases h
def blks(st:Int):Int→List Rcd→List (List UInt8)
 | _,[]=>[]
 | nu,r :: L=>dF r st nu++blks st (nu+1) L
theorem BY(st:Int) : ∀(L:List Rcd)(nu:Int),(∀r∈L,ej r=true)→(blks st nu L).length=sumN L:=by
 intro L
 induction L with
 | nil=>intro nu _;rfl
 | cons r L ih=>intro nu h;simp[blks,sumN,fc (h r (List.mem_cons_self ..)),ih (nu+1) fun x hx=>h x (List.mem_cons_of_mem _ hx)]
theorem Kh{α:Type}{l m:List α}{i:Nat}(d:α)(h:i<l.length):(l++m).getD i d=l.getD i d:=by simp[List.getD,List.getElem?_append_left h]
theorem HC{α:Type}{l m:List α}{i:Nat}(d:α):(l++m).getD (l.length+i) d=m.getD i d:=by simp[List.getD,List.getElem?_append_right]
end Go.Proofs.YtiidajnodhkidaaGreat
namespace Go.Proofs.YtiidajnodhkidaaGreat
open Go.Ab
attribute [local simp] ct bK bO bN keep thr cC bD bP eE eD cN cB aV dk List.take_of_length_le
theorem WL:limf env 39 []=some (dsk aNil 0 (-1) false):=by
 refine aH (fn:=Tryz.f39) (c:=yu) rfl (by kernel_rfl) (by kernel_rfl) (by kernel_rfl) (by kernel_rfl) ?_;refine D6 _ _ fun g=>?_
 simp[af,ah,ad,ae,aa, *,yE,dsk]
def fresh(n:Int):Dk:=⟨[],aNil,1,n,false⟩
theorem Dj(n:Int):(fresh n).Fit:=⟨.inl ⟨rfl,rfl⟩,fun s hs=>(by cases hs),by simp[fresh]⟩
theorem Kl{n:Int}(h : -1≤n∧n<2147483648):(fresh n).may=true:=by
 unfold Dk.may dOk dhOk fresh ascS
 simp
 omega
theorem BE(n q:Int):(fresh n).rd q=zer:=rfl
theorem O7{n:Int}(h : -1≤n∧n<2147483648):limf env 38 [dsk aNil 0 (-1) false,aI n]=some (.tup [(fresh n).val,aI 0]):=by
 have:=LM (l:=[]) (x:=aNil) (st:=0) (lf := -1) (dd:=false) (.inl ⟨rfl,rfl⟩) (fun s hs=>by cases hs) (by simp) n
 rw[if_pos (by decide),if_neg (by omega),if_neg (by decide)]at this
 exact this
def Dk.again(d:Dk)(n:Int):Dk:=⟨twL d.l,vw (twA d.x d.l),d.st+1,n,false⟩
theorem ID{d:Dk}{p nu most:Int} : ∀(m:Nat)(at':Int)(n:Nat),(∀r∈(fu d p nu most m at' n).1,r.op.l.length<1000000)∧(fu d p nu most m at' n).1.length≤m:=by
 intro m
 induction m with
 | zero=>intro at' n;exact⟨fun r hr=>(by cases hr),Nat.le_refl _⟩
 | succ m ih =>
  intro at' n
  unfold fu
  split
  ·split
   ·rename_i r k hw
    have:=ih (at'+k) (n+1)
    refine⟨fun q hq=>?_,by simp;exact this.2⟩
    rcases List.mem_cons.1 hq with rfl | hq
    ·exact(qv hw).2.2.2
    ·exact this.1 q hq
   ·exact⟨fun r hr=>(by cases hr),by simp⟩
  ·exact⟨fun r hr=>(by cases hr),by simp⟩
theorem CM{l:List Rcd}(h : ∀r∈l,r.op.l.length<1000000) : ∀p∈runR l,okRc p:=by
 intro p hp
 obtain⟨r,hr,rfl⟩:=List.mem_map.1 hp
 exact⟨mi _,h r hr⟩
end Go.Proofs.YtiidajnodhkidaaGreat
namespace Go.Proofs.YtiidajnodhkidaaGreat
open Go.Ab
attribute [local simp] ct bK bO bN keep thr cC bD bP eE eD cN cB aV dk List.take_of_length_le
theorem Sy{p:Rcd × AV}(hp:okRc p):limf env 105 [p.1.val p.2]=some (if ej p.1 then .tup [aI (recN p.1),aI 0] else .tup [aI 0,aI 8]):=by
 obtain⟨⟨k,u,⟨a_1,⟨a_2,a_3,a_4⟩,a_5,⟨⟨⟨a_6,a_7,a_8⟩,a_9⟩,a_10⟩,⟨⟨a_11,a_12,a_13⟩,a_14⟩,⟨a_15,a_16⟩,l⟩,c,g,v,w,o⟩,x⟩:=p
 exact zQ k u a_1 a_2 a_3 a_4 a_5 a_6 a_7 a_8 a_9 a_10 a_11 a_12 a_13 a_14 a_15 a_16 c g v w o hp.1 (by have:=hp.2;simp at this;omega)
end Go.Proofs.YtiidajnodhkidaaGreat
