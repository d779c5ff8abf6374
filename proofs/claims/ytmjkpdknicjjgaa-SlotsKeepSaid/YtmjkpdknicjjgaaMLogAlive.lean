/-
  Which records are there, by place: plain laws. No statement of a seat is proved here.
-/
import Derived.Test.YtmjkpdknicjjgaaMLogAll
set_option linter.unusedVariables false
set_option linter.unusedSimpArgs false
set_option linter.unusedSectionVars false
set_option linter.unnecessarySimpa false
set_option maxRecDepth 100000
namespace Go.Proofs.Ytmjkpdknicjjgaa
open Go.Ab
theorem Gr (d:Dk) (p:Int) (n:Nat) {i:Nat} (h:i<n):(im d p n)[i]?=some (d.rd (p+i)):=by simp [im,h]
theorem Cy {d d':Dk} {p:Int} {n:Nat} (h : ∀i:Nat,i<n→d'.rd (p+i)=d.rd (p+i)):im d' p n=im d p n:=by
 unfold im
 exact List.map_congr_left fun i hi=>h i (List.mem_range.1 hi)
theorem Fj {d d':Dk} {p at' nu:Int} {r:Rcd} {k:Nat} (hw:pF d p at' nu=some (r,k)) (h : ∀i:Nat,i<k→d'.rd (p+i)=d.rd (p+i)):pF d' p at' nu=some (r,k):=by
 have hle:=vB hw
 unfold pF at hw ⊢
 split at hw
 ·cases hw
 ·rename_i h1
  rw [if_neg h1]
  have h0:d'.rd p=d.rd p:=by simpa using h 0 (by omega)
  rw [h0]
  split at hw
  ·rename_i h2
   rw [if_pos h2]
   have hk:(hdOf (d.rd p)).of.toNat=k:=by
    cases hg:getR (im d p (hdOf (d.rd p)).of.toNat) with
    | none=>rw [hg] at hw;cases hw
    | some q=>rw [hg] at hw;simp at hw;exact hw.2
   rw [Cy (d:=d) (d':=d') fun i hi=>h i (by omega)]
   exact hw
  ·cases hw
theorem O9 {d:Dk} {p:Int} {B:List (List UInt8)} (h : ∀i:Nat,i<B.length→d.rd (p+i)=B.getD i []):im d p B.length=B:=by
 apply List.ext_getElem?
 intro i
 by_cases hi:i<B.length
 ·rw [Gr d p _ hi,h i hi,List.getElem?_eq_getElem hi]
  simp [List.getD,hi]
 ·rw [List.getElem?_eq_none (by simp;omega),List.getElem?_eq_none (by omega)]
theorem GC {d:Dk} {p at' st nu:Int} {r:Rcd} (hI:eS r=true) (hh:k7 st nu 0 (recN r)=true) (hroom:at'+recN r≤2048) (h : ∀i:Nat,i<recN r→d.rd (p+i)=(du r st nu).getD i []):pF d p at' nu=some (r,recN r):=by
 have hn:=rI hI
 have hlen:=ju hI st nu
 have h0:(du r st nu)[0]?=some (d.rd p):=by
  have:=h 0 (by omega)
  rw [List.getElem?_eq_getElem (by omega)]
  simp only [Int.natCast_zero,Int.add_zero] at this
  rw [this]
  simp [List.getD,show 0<(du r st nu).length by omega]
 obtain ⟨e1,e2,_⟩:=qx hh h0 (by omega)
 unfold pF
 rw [if_neg (by omega),e1,e2,if_pos (by simp;omega)]
 have:(Hd.mk st nu ((0:Nat):Int) (recN r)).of.toNat=(du r st nu).length:=by rw [hlen];rfl
 rw [this,O9 (by rw [hlen];exact h),DG hI hh,hlen]
 rfl
def sumN:List Rcd→Nat
 | []=>0
 | r :: L=>recN r+sumN L
def chain (d:Dk) (p:Int):Int→Int→List Rcd→Prop
 | _,_,[]=>True
 | nu,at',r :: L=>pF d (p+at') at' nu=some (r,recN r)∧chain d p (nu+1) (at'+recN r) L
theorem Es (L M:List Rcd):sumN (L++M)=sumN L+sumN M:=by
 induction L with
 | nil=>simp [sumN]
 | cons r L ih=>simp [sumN,ih];omega
theorem wR {d d':Dk} {p:Int} : ∀(L:List Rcd) (nu at':Int),chain d p nu at' L→(∀q,p+at'≤q→q<p+at'+sumN L→d'.rd q=d.rd q)→chain d' p nu at' L:=by
 intro L
 induction L with
 | nil=>intro nu at' _ _;trivial
 | cons a L ih =>
  intro nu at' h hq
  simp only [sumN] at hq
  exact ⟨Fj h.1 fun i hi=>hq _ (by omega) (by omega),ih _ _ h.2 fun q h1 h2=>hq q (by omega) (by omega)⟩
theorem E8 {d:Dk} {p:Int} : ∀(L:List Rcd) (nu at':Int),chain d p nu at' L→L.length≤sumN L:=by
 intro L
 induction L with
 | nil=>intro nu at' _;simp
 | cons a L ih =>
  intro nu at' h
  have:=ih _ _ h.2
  have:=vB h.1
  simp [sumN]
  omega
theorem Fc (d:Dk) (area at' nu:Int) (r:Rcd):(d.app area at' nu r).st=d.st:=Gw 0 _ _ _
theorem MC {d:Dk} (hf:d.Fit) {area at' nu:Int} {r:Rcd} (h:appE d area at' nu r=0):(d.app area at' nu r).Fit∧(d.app area at' nu r).may=true∧d.may=true∧(0≤area∧area≤2∧0≤at'∧at'≤2048∧1≤d.st∧1≤nu∧nu<16777216)∧eS r=true∧at'+recN r≤2048∧k7 d.st nu 0 (recN r)=true:=by
 unfold appE at h
 split at h
 ·rename_i hm
  split at h
  ·rename_i hg
   split at h
   ·rename_i hI
    split at h
    ·rename_i hr
     have hst:d.st<2147483648:=by
      have:=hm
      unfold Dk.may dOk dhOk at this
      simp at this
      omega
     have hn:=rI hI
     have hh:k7 d.st nu 0 (recN r)=true:=by
      unfold k7
      simp
      omega
     have:=LO (du r d.st nu) d.tw (area * 2048+at') (LZ hf) (by rw [LY,hm]) (by omega) (by rw [ju hI];omega) (Cx hI hh)
     exact ⟨this.1,this.2,hm,hg,hI,hr,hh⟩
    ·cases h
   ·cases h
  ·cases h
 ·cases h
def blks (st:Int):Int→List Rcd→List (List UInt8)
 | _,[]=>[]
 | nu,r :: L=>du r st nu++blks st (nu+1) L
theorem AJ (st:Int) : ∀(L:List Rcd) (nu:Int),(∀r∈L,eS r=true)→(blks st nu L).length=sumN L:=by
 intro L
 induction L with
 | nil=>intro nu _;rfl
 | cons r L ih=>intro nu h;simp [blks,sumN,ju (h r (List.mem_cons_self ..)),ih (nu+1) fun x hx=>h x (List.mem_cons_of_mem _ hx)]
theorem IV {α:Type} {l m:List α} {i:Nat} (d:α) (h:i<l.length):(l++m).getD i d=l.getD i d:=by simp [List.getD,List.getElem?_append_left h]
theorem Ga {α:Type} {l m:List α} {i:Nat} (d:α):(l++m).getD (l.length+i) d=m.getD i d:=by simp [List.getD,List.getElem?_append_right]
end Go.Proofs.Ytmjkpdknicjjgaa
set_option linter.unusedVariables false
set_option linter.unusedSimpArgs false
set_option linter.unusedSectionVars false
set_option linter.unnecessarySimpa false
set_option maxRecDepth 100000
namespace Go.Proofs.Ytmjkpdknicjjgaa
open Go.Ab
attribute [local simp] cb bC bG bF keep thr cy bB bH eF eE bX cx aO cZ List.take_of_length_le
theorem QC:limf env 10 []=some (dsk aNil 0 (-1) false):=by
 refine aG (fn:=Try.f10) (c:=rX) rfl (by kernel_rfl) (by kernel_rfl) (by kernel_rfl) (by kernel_rfl) ?_;refine CV _ _ fun g=>?_
 simp [af,ah,ad,ae,aa, *,sc,dsk]
def fresh (n:Int):Dk:=⟨[],aNil,1,n,false⟩
theorem I0 (n:Int):(fresh n).Fit:=⟨.inl ⟨rfl,rfl⟩,fun s hs=>(by cases hs),by simp [fresh]⟩
theorem IZ {n:Int} (h : -1≤n∧n<2147483648):(fresh n).may=true:=by
 unfold Dk.may dOk dhOk fresh ascS
 simp
 omega
theorem EX (n q:Int):(fresh n).rd q=zer:=rfl
theorem Hs {n:Int} (h : -1≤n∧n<2147483648):limf env 9 [dsk aNil 0 (-1) false,aI n]=some (.tup [(fresh n).val,aI 0]):=by
 have:=Ew (l:=[]) (x:=aNil) (st:=0) (lf := -1) (dd:=false) (.inl ⟨rfl,rfl⟩) (fun s hs=>by cases hs) (by simp) n
 rw [if_pos (by decide),if_neg (by omega),if_neg (by decide)] at this
 exact this
def Dk.again (d:Dk) (n:Int):Dk:=⟨twL d.l,vw (twA d.x d.l),d.st+1,n,false⟩
theorem Db {d:Dk} (hf:d.Fit) (hm:d.may=true) {n:Int} (h : -1≤n∧n<2147483648) (hst:d.st+1<2147483648):limf env 9 [d.val,aI n]=some (.tup [(d.again n).val,aI 0]):=by
 have:=Ew (st:=d.st) (lf:=d.lf) (dd:=d.dd) hf.sl hf.ok (by have:=hf.len;omega) n
 rw [if_pos (show dOk d.l d.st d.lf d.dd=true from hm),if_neg (by omega),if_neg (by omega)] at this
 exact this
theorem JA {d:Dk} (h:d.Fit) (n:Int):(d.again n).Fit:=⟨MM h.sl,yn _,by show (twL d.l).length<_;rw [GQ];exact h.len⟩
theorem LM (d:Dk) (n q:Int):(d.again n).rd q=d.rd q:=HJ _ _
theorem Jz {d:Dk} (hm:d.may=true) {n:Int} (h : -1≤n∧n<2147483648) (hst:d.st+1<2147483648):(d.again n).may=true:=by
 have ha:=wi hm
 unfold Dk.may dOk at hm ⊢
 show (ascS (-1) (twL d.l)&&_)=true
 rw [ym,ha]
 show (true&&dhOk (d.st+1) n false)=true
 unfold dhOk at hm ⊢
 rw [ha] at hm
 simp at hm
 simp
 omega
theorem Ex {l:List Rcd} (h : ∀r∈l,r.op.l.length<1000000) : ∀p∈runR l,okRc p:=by
 intro p hp
 obtain ⟨r,hr,rfl⟩:=List.mem_map.1 hp
 exact ⟨lF _,h r hr⟩
section
variable {l:List (Rcd × AV)} {x:AV} (hx:Sl 24 (eA l) x) (hl : ∀p∈l,okRc p) (hbig:l.length<100000)
include hx hl hbig
end
end Go.Proofs.Ytmjkpdknicjjgaa
set_option linter.unusedVariables false
set_option linter.unusedSimpArgs false
set_option linter.unusedSectionVars false
set_option linter.unnecessarySimpa false
set_option maxRecDepth 100000
namespace Go.Proofs.Ytmjkpdknicjjgaa
open Go.Ab
attribute [local simp] cb bC bG bF keep thr cy bB bH eF eE bX cx aO cZ List.take_of_length_le
theorem L9 {p:Rcd × AV} (hp:okRc p):limf env 20 [p.1.val p.2]=some (if eS p.1 then .tup [aI (recN p.1),aI 0] else .tup [aI 0,aI 8]):=by
 obtain ⟨⟨k,u,⟨a_1,⟨a_2,a_3,a_4⟩,a_5,⟨⟨⟨a_6,a_7,a_8⟩,a_9⟩,a_10⟩,⟨⟨a_11,a_12,a_13⟩,a_14⟩,⟨a_15,a_16⟩,l⟩,c,g,v,w,o⟩,x⟩:=p
 exact yv k u a_1 a_2 a_3 a_4 a_5 a_6 a_7 a_8 a_9 a_10 a_11 a_12 a_13 a_14 a_15 a_16 c g v w o hp.1 (by have:=hp.2;simp at this;omega)
end Go.Proofs.Ytmjkpdknicjjgaa
