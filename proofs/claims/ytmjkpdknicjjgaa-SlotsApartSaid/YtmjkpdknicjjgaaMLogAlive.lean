/-
  Which records are there, by place: plain laws. No statement of a seat is proved here.
-/
import Derived.Test.YtmjkpdknicjjgaaLogAll
import Derived.Test.YtmjkpdknicjjgaaLgVc8
set_option linter.unusedVariables false
set_option linter.unusedSimpArgs false
set_option linter.unusedSectionVars false
set_option linter.unnecessarySimpa false
set_option maxRecDepth 100000
namespace Go.Proofs.Ytmjkpdknicjjgaa
open Go.Ab
theorem F6 (d:Dk) (p:Int) (n:Nat) {i:Nat} (h:i<n):(iu d p n)[i]?=some (d.rd (p+i)):=by simp [iu,h]
theorem Co {d d':Dk} {p:Int} {n:Nat} (h : ∀i:Nat,i<n→d'.rd (p+i)=d.rd (p+i)):iu d' p n=iu d p n:=by
 unfold iu
 exact List.map_congr_left fun i hi=>h i (List.mem_range.1 hi)
theorem Ct {d d':Dk} {p at' nu:Int} (h : ∀i:Int,0≤i→at'+i<2048→d'.rd (p+i)=d.rd (p+i)):py d' p at' nu=py d p at' nu:=by
 unfold py
 by_cases h1:2048≤at'
 ·rw [if_pos h1,if_pos h1]
 ·rw [if_neg h1,if_neg h1]
  have h0:d'.rd p=d.rd p:=by simpa using h 0 (by omega) (by omega)
  rw [h0]
  split
  ·rename_i h2
   simp only [Bool.and_eq_true,decide_eq_true_eq] at h2
   have hof:=NG h2.1
   rw [Co fun i hi=>h i (by omega) (by omega)]
  ·rfl
theorem OF {d:Dk} {p:Int} {B:List (List UInt8)} (h : ∀i:Nat,i<B.length→d.rd (p+i)=B.getD i []):iu d p B.length=B:=by
 apply List.ext_getElem?
 intro i
 by_cases hi:i<B.length
 ·rw [F6 d p _ hi,h i hi,List.getElem?_eq_getElem hi]
  simp [List.getD,hi]
 ·rw [List.getElem?_eq_none (by simp;omega),List.getElem?_eq_none (by omega)]
theorem Gf {d:Dk} {p at' st nu:Int} {r:Rcd} (hI:eY r=true) (hh:kW st nu 0 (recN r)=true) (hroom:at'+recN r≤2048) (h : ∀i:Nat,i<recN r→d.rd (p+i)=(dt r st nu).getD i []):py d p at' nu=some (r,recN r):=by
 have hn:=rA hI
 have hlen:=jo hI st nu
 have h0:(dt r st nu)[0]?=some (d.rd p):=by
  have:=h 0 (by omega)
  rw [List.getElem?_eq_getElem (by omega)]
  simp only [Int.natCast_zero,Int.add_zero] at this
  rw [this]
  simp [List.getD,show 0<(dt r st nu).length by omega]
 obtain ⟨e1,e2,_⟩:=qm hh h0 (by omega)
 unfold py
 rw [if_neg (by omega),e1,e2,if_pos (by simp;omega)]
 have:(Hd.mk st nu ((0:Nat):Int) (recN r)).of.toNat=(dt r st nu).length:=by rw [hlen];rfl
 rw [this,OF (by rw [hlen];exact h),Ds hI hh,hlen]
 rfl
def sumN:List Rcd→Nat
 | []=>0
 | r :: L=>recN r+sumN L
def chain (d:Dk) (p:Int):Int→Int→List Rcd→Prop
 | _,_,[]=>True
 | nu,at',r :: L=>py d (p+at') at' nu=some (r,recN r)∧chain d p (nu+1) (at'+recN r) L
theorem EL {d:Dk} {p:Int} : ∀(L:List Rcd) (nu at':Int),chain d p nu at' L→L.length≤sumN L:=by
 intro L
 induction L with
 | nil=>intro nu at' _;simp
 | cons a L ih =>
  intro nu at' h
  have:=ih _ _ h.2
  have:=vm h.1
  simp [sumN]
  omega
theorem Fa {d d':Dk} {p nu most:Int} (h : ∀q,p≤q→q<p+2048→d'.rd q=d.rd q) : ∀(m:Nat) (at':Int) (n:Nat),0≤at'→iG d' p nu most m at' n=iG d p nu most m at' n:=by
 intro m
 induction m with
 | zero=>intro at' n _;rfl
 | succ m ih =>
  intro at' n h0
  unfold iG
  rw [Ct (d:=d) (d':=d') fun i h1 h2=>h _ (by omega) (by omega)]
  split
  ·split
   ·rename_i r k hw
    rw [ih (at'+k) (n+1) (by omega)]
   ·rfl
  ·rfl
theorem EP (d:Dk) (area at' nu:Int) (r:Rcd):(d.app area at' nu r).st=d.st:=Lg 0 _ _ _
theorem L3 {d:Dk} (hf:d.Fit) {area at' nu:Int} {r:Rcd} (h:appE d area at' nu r=0):(d.app area at' nu r).Fit∧(d.app area at' nu r).may=true∧d.may=true∧(0≤area∧area≤2∧0≤at'∧at'≤2048∧1≤d.st∧1≤nu∧nu<16777216)∧eY r=true∧at'+recN r≤2048∧kW d.st nu 0 (recN r)=true:=by
 unfold appE at h
 split at h
 ·rename_i hm
  split at h
  ·rename_i hg
   split at h
   ·rename_i hI
    split at h
    ·rename_i hr
     have hst:d.st<2147483648:=by
      have:=hm
      unfold Dk.may dOk dhOk at this
      simp at this
      omega
     have hn:=rA hI
     have hh:kW d.st nu 0 (recN r)=true:=by
      unfold kW
      simp
      omega
     have:=Lh (dt r d.st nu) d.tw (area * 2048+at') (Lr hf) (by rw [Lq,hm]) (by omega) (by rw [jo hI];omega) (Cn hI hh)
     exact ⟨this.1,this.2,hm,hg,hI,hr,hh⟩
    ·cases h
   ·cases h
  ·cases h
 ·cases h
def blks (st:Int):Int→List Rcd→List (List UInt8)
 | _,[]=>[]
 | nu,r :: L=>dt r st nu++blks st (nu+1) L
theorem EO (st:Int) : ∀(L:List Rcd) (nu:Int),(∀r∈L,eY r=true)→(blks st nu L).length=sumN L:=by
 intro L
 induction L with
 | nil=>intro nu _;rfl
 | cons r L ih=>intro nu h;simp [blks,sumN,jo (h r (List.mem_cons_self ..)),ih (nu+1) fun x hx=>h x (List.mem_cons_of_mem _ hx)]
theorem Ir {α:Type} {l m:List α} {i:Nat} (d:α) (h:i<l.length):(l++m).getD i d=l.getD i d:=by simp [List.getD,List.getElem?_append_left h]
theorem FO {α:Type} {l m:List α} {i:Nat} (d:α):(l++m).getD (l.length+i) d=m.getD i d:=by simp [List.getD,List.getElem?_append_right]
end Go.Proofs.Ytmjkpdknicjjgaa
set_option linter.unusedVariables false
set_option linter.unusedSimpArgs false
set_option linter.unusedSectionVars false
set_option linter.unnecessarySimpa false
set_option maxRecDepth 100000
namespace Go.Proofs.Ytmjkpdknicjjgaa
open Go.Ab
attribute [local simp] bU bB bD bC keep thr cg bA bE ek ej bW cf aO cW List.take_of_length_le
theorem TY:limf env 10 []=some (dsk aNil 0 (-1) false):=by
 refine aG (fn:=Try.f10) (c:=rP) rfl (by kernel_rfl) (by kernel_rfl) (by kernel_rfl) (by kernel_rfl) ?_;refine CM _ _ fun g=>?_
 simp [af,ah,ad,ae,aa, *,rW,dsk]
def fresh (n:Int):Dk:=⟨[],aNil,1,n,false⟩
theorem Iw (n:Int):(fresh n).Fit:=⟨.inl ⟨rfl,rfl⟩,fun s hs=>(by cases hs),by simp [fresh]⟩
theorem Iv {n:Int} (h : -1≤n∧n<2147483648):(fresh n).may=true:=by
 unfold Dk.may dOk dhOk fresh ascS
 simp
 omega
theorem EA (n q:Int):(fresh n).rd q=zer:=rfl
theorem MV {n:Int} (h : -1≤n∧n<2147483648):limf env 9 [dsk aNil 0 (-1) false,aI n]=some (.tup [(fresh n).val,aI 0]):=by
 have:=JT (l:=[]) (x:=aNil) (st:=0) (lf := -1) (dd:=false) (.inl ⟨rfl,rfl⟩) (fun s hs=>by cases hs) (by simp) n
 rw [if_pos (by decide),if_neg (by omega),if_neg (by decide)] at this
 exact this
def Dk.again (d:Dk) (n:Int):Dk:=⟨twL d.l,vw (twA d.x d.l),d.st+1,n,false⟩
theorem MD {d:Dk} {p nu most:Int} : ∀(m:Nat) (at':Int) (n:Nat),(∀r∈(iG d p nu most m at' n).1,r.op.l.length<1000000)∧(iG d p nu most m at' n).1.length≤m:=by
 intro m
 induction m with
 | zero=>intro at' n;exact ⟨fun r hr=>(by cases hr),Nat.le_refl _⟩
 | succ m ih =>
  intro at' n
  unfold iG
  split
  ·split
   ·rename_i r k hw
    have:=ih (at'+k) (n+1)
    refine ⟨fun q hq=>?_,by simp;exact this.2⟩
    rcases List.mem_cons.1 hq with rfl | hq
    ·exact (vm hw).2.2.2
    ·exact this.1 q hq
   ·exact ⟨fun r hr=>(by cases hr),by simp⟩
  ·exact ⟨fun r hr=>(by cases hr),by simp⟩
theorem yh {l:List Rcd} (h : ∀r∈l,r.op.l.length<1000000) : ∀p∈runR l,okRc p:=by
 intro p hp
 obtain ⟨r,hr,rfl⟩:=List.mem_map.1 hp
 exact ⟨lB _,h r hr⟩
section
variable {l:List (Rcd × AV)} {x:AV} (hx:Sl 24 (eO l) x) (hl : ∀p∈l,okRc p) (hbig:l.length<100000)
include hx hl hbig
end
end Go.Proofs.Ytmjkpdknicjjgaa
set_option linter.unusedVariables false
set_option linter.unusedSimpArgs false
set_option linter.unusedSectionVars false
set_option linter.unnecessarySimpa false
set_option maxRecDepth 100000
namespace Go.Proofs.Ytmjkpdknicjjgaa
open Go.Ab
attribute [local simp] bU bB bD bC keep thr cg bA bE ek ej bW cf aO cW List.take_of_length_le
theorem P8 {p:Rcd × AV} (hp:okRc p):limf env 20 [p.1.val p.2]=some (if eY p.1 then .tup [aI (recN p.1),aI 0] else .tup [aI 0,aI 8]):=by
 obtain ⟨⟨k,u,⟨a_1,⟨a_2,a_3,a_4⟩,a_5,⟨⟨⟨a_6,a_7,a_8⟩,a_9⟩,a_10⟩,⟨⟨a_11,a_12,a_13⟩,a_14⟩,⟨a_15,a_16⟩,l⟩,c,g,v,w,o⟩,x⟩:=p
 exact yf k u a_1 a_2 a_3 a_4 a_5 a_6 a_7 a_8 a_9 a_10 a_11 a_12 a_13 a_14 a_15 a_16 c g v w o hp.1 (by have:=hp.2;simp at this;omega)
end Go.Proofs.Ytmjkpdknicjjgaa
