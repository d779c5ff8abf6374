/-
  Handles and ids as bytes: what these functions answer. No statement of a seat is proved here.
-/
import Derived.Test.YtmjkpdknicjjgaaMIdsFns
set_option linter.unusedVariables false
set_option linter.unusedSimpArgs false
set_option linter.unusedSectionVars false
set_option linter.unnecessarySimpa false
set_option maxRecDepth 100000
namespace Go.Proofs.Ytmjkpdknicjjgaa
open Go.Ab
attribute [local simp] cb bE bL bK keep thr cE bC bM eT eS bZ cD aW df List.take_of_length_le
@[simp] theorem Pr (n:Int) (h0:0≤n):limf env 72 [aI n,aI 4]=some (.isl 1 (by8 (be 4 n)) none):=by
 refine aH (fn:=Try.f72) (c:=jY) rfl (by kernel_rfl) (by kernel_rfl) (by kernel_rfl) (by kernel_rfl) ?_;refine rV _ _ _ _ fun g=>?_
 have w5:IntKind.i64.wrap (-1) = -1:=rfl
 have w4:IntKind.i64.wrap 0=0:=rfl
 simp [af,ah,ab,ad,aa, *,lW]
 refine cu _ _ _ _ _ fun g=>?_
 simp [af,ah,ab,ad,aa, *,bR,cQ,cM]
 refine cu _ _ _ _ _ fun g=>?_
 simp [af,ah,ab,ad,aa, *,bR,cQ,cM]
 refine cu _ _ _ _ _ fun g=>?_
 simp [af,ah,ab,ad,aa, *,bR,cQ,cM]
 refine cu _ _ _ _ _ fun g=>?_
 simp [af,ah,ab,ad,aa, *,bR,cQ,cM]
 refine cu _ _ _ _ _ fun g=>?_
 simp [af,ah,ab,ad,aa, *,bR,be_4,by8]
@[simp] theorem Gi (n:Int) (h0:0≤n):limf env 72 [aI n,aI 7]=some (.isl 1 (by8 (be 7 n)) none):=by
 refine aH (fn:=Try.f72) (c:=jY) rfl (by kernel_rfl) (by kernel_rfl) (by kernel_rfl) (by kernel_rfl) ?_;refine rV _ _ _ _ fun g=>?_
 have w5:IntKind.i64.wrap (-1) = -1:=rfl
 have w4:IntKind.i64.wrap 0=0:=rfl
 simp [af,ah,ab,ad,aa, *,lW]
 refine cu _ _ _ _ _ fun g=>?_
 simp [af,ah,ab,ad,aa, *,bR,cQ,cM]
 refine cu _ _ _ _ _ fun g=>?_
 simp [af,ah,ab,ad,aa, *,bR,cQ,cM]
 refine cu _ _ _ _ _ fun g=>?_
 simp [af,ah,ab,ad,aa, *,bR,cQ,cM]
 refine cu _ _ _ _ _ fun g=>?_
 simp [af,ah,ab,ad,aa, *,bR,cQ,cM]
 refine cu _ _ _ _ _ fun g=>?_
 simp [af,ah,ab,ad,aa, *,bR,cQ,cM]
 refine cu _ _ _ _ _ fun g=>?_
 simp [af,ah,ab,ad,aa, *,bR,cQ,cM]
 refine cu _ _ _ _ _ fun g=>?_
 simp [af,ah,ab,ad,aa, *,bR,cQ,cM]
 refine cu _ _ _ _ _ fun g=>?_
 simp [af,ah,ab,ad,aa, *,bR,be_7,by8]
theorem GH {x5:AV} {Q:AV→Heap→Prop} {l:List UInt8} (hx:Sl 1 (by8 l) x5) (hl:l.length≤7) : ∀(s:List UInt8) (k:Nat) (i a:Int) (H:Heap),l.drop k=s→k≤l.length→i=k→0≤a→a<256 ^ k →
 (∀y H',y=aI (valF a s)→Q y H') →
 GoL env Try.f110 0 jQ [(7,aI i),(2,aI a),(5,x5),(6,aI l.length)] H Q:=by
 intro s
 induction s with
 | nil =>
  rintro k i a H hs hk rfl h0 h1 hQ
  obtain rfl:=drop_nil hs hk
  refine rU _ _ _ _ _ _ fun g=>?_
  simp [af,ah,ab,ad,aa, *,lV]
  exact hQ _ _ rfl
 | cons b s ih =>
  rintro k i a H hs hk rfl h0 h1 hQ
  obtain ⟨hlt,hg,hs',hg'⟩:=drop_cons hs
  refine rU _ _ _ _ _ _ fun g=>?_
  have hb:=b.toNat_lt
  have h2:=AN (k:=k) 6 (by omega)
  have e:=G5 h0 (by omega) b
  have e2:=IntWalk.i64_in (a * 256) (by omega)
  have e3:=IntWalk.i64_in ((k:Int)+1) (by omega)
  simp [af,ah,ab,ad,aa, *,lV,uF,hx.idx]
  exact ih (k+1) _ _ _ hs' (by omega) (by simp) (by omega) (by rw [Int.pow_succ];omega) hQ
@[simp] theorem Gh {x:AV} {l:List UInt8} (hx:Sl 1 (by8 l) x) (hl:l.length≤7):limf env 110 [x]=some (aI (val l)):=by
 refine aH (fn:=Try.f110) (c:=oP) rfl (by kernel_rfl) (by kernel_rfl) (by kernel_rfl) (by kernel_rfl) ?_;refine B9 _ _ _ fun g=>?_
 have h:=hx.len
 simp [af,ah,ab,ad,aa, *,rK]
 exact GH hx hl l 0 _ _ _ rfl (by omega) rfl (by omega) (by simp) (fun y H' e=>by simp [e,val])
def dI (h:Han):List UInt8:=h.lv :: (be 4 h.cats.toNat++[h.num])
@[simp] theorem ya (h:Han):(dI h).length=6:=by simp [dI]
@[simp] theorem Cm (a:UInt8) (b:UInt32) (n:UInt8):limf env 53 [.agg [a8 a,a32 b,a8 n]]=some (if gP ⟨a,b,n⟩ then .tup [.fsl 1 (by8 (dI ⟨a,b,n⟩)) none,aI 0] else .tup [aNil,aI 8]):=by
 refine aH (fn:=Try.f53) (c:=lB) rfl (by kernel_rfl) (by kernel_rfl) (by kernel_rfl) (by kernel_rfl) ?_;refine uc _ _ _ fun g=>?_
 cases h:gP ⟨a,b,n⟩ with
 | true=>simp [af,ah,ab,ad,aa, *,jh,bad,by8,dI]
 | false=>simp [af,ah,ab,ad,aa, *,jh,bad]
def fJ (i:Idd):List UInt8:=dI i.h++be 7 i.n
@[simp] theorem OF (i:Idd):(fJ i).length=13:=by simp [fJ]
@[simp] theorem Uf (a:UInt8) (b:UInt32) (n:UInt8) (k:Int):limf env 74 [.agg [a8 a,a32 b,a8 n,aI k]]=some (if idB ⟨⟨a,b,n⟩,k⟩ then .tup [.isl 1 (by8 (fJ ⟨⟨a,b,n⟩,k⟩)) none,aI 0] else .tup [aNil,aI 8]):=by
 refine aH (fn:=Try.f74) (c:=ti) rfl (by kernel_rfl) (by kernel_rfl) (by kernel_rfl) (by kernel_rfl) ?_;refine Ey _ _ _ fun g=>?_
 cases h:idB ⟨⟨a,b,n⟩,k⟩ with
 | true =>
  have hn:=HB h
  have h7:=Gi k (by simp only at hn;omega)
  have hh:gP ⟨a,b,n⟩=true:=by simp only [idB,Bool.and_eq_true] at h;exact h.1
  simp only at hn
  simp [af,ah,ab,ad,aa, *,qy,bad,by8,fJ]
 | false=>simp [af,ah,ab,ad,aa, *,qy,bad]
theorem Mi {c:Option Nat} {a n b1 b2 b3 b4:UInt8} (hc:6≤c.getD 6):limf env 94 [.isl 1 [a8 a,a8 b1,a8 b2,a8 b3,a8 b4,a8 n] c]=some (.agg [a8 a,a32 (u32 (val [b1,b2,b3,b4])),a8 n,aI (bad (gP ⟨a,u32 (val [b1,b2,b3,b4]),n⟩))]):=by
 refine aH (fn:=Try.f94) (c:=mX) rfl (by kernel_rfl) (by kernel_rfl) (by kernel_rfl) (by kernel_rfl) ?_;refine tu _ _ _ fun g=>?_
 have hr:=Gh (l:=[b1,b2,b3,b4]) (x := .isl 1 [a8 b1,a8 b2,a8 b3,a8 b4] (c.map (· - 1))) (Sl.mkC (Dd hc (by simp))) (by simp)
 have hv:=vf [b1,b2,b3,b4]
 generalize val [b1,b2,b3,b4]=v at *
 simp [af,ah,ab,ad,aa, *,m0]
theorem vm {c:Option Nat} {a n b1 b2 b3 b4:UInt8} (hc:6≤c.getD 6):limf env 81 [.isl 1 [a8 a,a8 b1,a8 b2,a8 b3,a8 b4,a8 n] c] =
 some (if gP ⟨a,u32 (val [b1,b2,b3,b4]),n⟩ then .tup [.agg [a8 a,a32 (u32 (val [b1,b2,b3,b4])),a8 n],aI 0] else .tup [.agg [a8 0,a32 0,a8 0],aI 8]):=by
 refine aH (fn:=Try.f81) (c:=lC) rfl (by kernel_rfl) (by kernel_rfl) (by kernel_rfl) (by kernel_rfl) ?_;refine ud _ _ _ fun g=>?_
 have hr:=Mi (a:=a) (n:=n) (b1:=b1) (b2:=b2) (b3:=b3) (b4:=b4) hc
 generalize val [b1,b2,b3,b4]=v at *
 cases h:gP ⟨a,u32 v,n⟩<;>simp [af,ah,ab,ad,aa, *,lE,bad]
theorem Gj {c:Option Nat} {a n b1 b2 b3 b4 d1 d2 d3 d4 d5 d6 d7:UInt8} (hc:13≤c.getD 13):limf env 94 [.isl 1 [a8 a,a8 b1,a8 b2,a8 b3,a8 b4,a8 n,a8 d1,a8 d2,a8 d3,a8 d4,a8 d5,a8 d6,a8 d7] c]=some (.agg [a8 a,a32 (u32 (val [b1,b2,b3,b4])),a8 n,aI (bad (gP ⟨a,u32 (val [b1,b2,b3,b4]),n⟩))]):=by
 refine aH (fn:=Try.f94) (c:=mX) rfl (by kernel_rfl) (by kernel_rfl) (by kernel_rfl) (by kernel_rfl) ?_;refine tu _ _ _ fun g=>?_
 have hr:=Gh (l:=[b1,b2,b3,b4]) (x := .isl 1 [a8 b1,a8 b2,a8 b3,a8 b4] (c.map (· - 1))) (Sl.mkC (Dd hc (by simp))) (by simp)
 have hv:=vf [b1,b2,b3,b4]
 generalize val [b1,b2,b3,b4]=v at *
 simp [af,ah,ab,ad,aa, *,m0]
theorem Pw {c:Option Nat} {a n b1 b2 b3 b4 d1 d2 d3 d4 d5 d6 d7:UInt8} (hc:13≤c.getD 13):limf env 111 [.isl 1 [a8 a,a8 b1,a8 b2,a8 b3,a8 b4,a8 n,a8 d1,a8 d2,a8 d3,a8 d4,a8 d5,a8 d6,a8 d7] c] =
 some (if idB ⟨⟨a,u32 (val [b1,b2,b3,b4]),n⟩,val [d1,d2,d3,d4,d5,d6,d7]⟩ then .tup [.agg [a8 a,a32 (u32 (val [b1,b2,b3,b4])),a8 n,aI (val [d1,d2,d3,d4,d5,d6,d7])],aI 0] else .tup [.agg [a8 0,a32 0,a8 0,aI 0],aI 8]):=by
 refine aH (fn:=Try.f111) (c:=tj) rfl (by kernel_rfl) (by kernel_rfl) (by kernel_rfl) (by kernel_rfl) ?_;refine Ez _ _ _ fun g=>?_
 have hr:=Gj (a:=a) (n:=n) (b1:=b1) (b2:=b2) (b3:=b3) (b4:=b4) (d1:=d1) (d2:=d2) (d3:=d3) (d4:=d4) (d5:=d5) (d6:=d6) (d7:=d7) hc
 have hs:=Gh (l:=[d1,d2,d3,d4,d5,d6,d7]) (x := .isl 1 [a8 d1,a8 d2,a8 d3,a8 d4,a8 d5,a8 d6,a8 d7] (c.map (· - 6))) (Sl.mkC (Dd hc (by simp))) (by simp)
 generalize val [b1,b2,b3,b4]=v at *
 generalize val [d1,d2,d3,d4,d5,d6,d7]=w at *
 cases h:idB ⟨⟨a,u32 v,n⟩,w⟩<;>simp [af,ah,ab,ad,aa, *,tq,bad]
end Go.Proofs.Ytmjkpdknicjjgaa
