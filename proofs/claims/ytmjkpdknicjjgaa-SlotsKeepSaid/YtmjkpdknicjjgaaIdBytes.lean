/-
  Handles and ids as bytes: what these functions answer. No statement of a seat is proved here.
-/
import Derived.Test.YtmjkpdknicjjgaaMIdsFns
set_option linter.unusedVariables false
set_option linter.unusedSimpArgs false
set_option linter.unusedSectionVars false
set_option linter.unnecessarySimpa false
set_option maxRecDepth 100000
namespace Go.Proofs.Ytmjkpdknicjjgaa
open Go.Ab
attribute [local simp] cb bC bG bF keep thr cy bB bH eF eE bX cx aO cZ List.take_of_length_le
@[simp] theorem Qz (n:Int) (h0:0≤n):limf env 72 [aI n,aI 4]=some (.isl 1 (by8 (be 4 n)) none):=by
 refine aG (fn:=Try.f72) (c:=j1) rfl (by kernel_rfl) (by kernel_rfl) (by kernel_rfl) (by kernel_rfl) ?_;refine so _ _ _ _ fun g=>?_
 have w5:IntKind.i64.wrap (-1) = -1:=rfl
 have w4:IntKind.i64.wrap 0=0:=rfl
 simp [af,ah,ad,ae,aa, *,ml]
 refine cz _ _ _ _ _ fun g=>?_
 simp [af,ah,ad,ae,aa, *,bT,bW,bU]
 refine cz _ _ _ _ _ fun g=>?_
 simp [af,ah,ad,ae,aa, *,bT,bW,bU]
 refine cz _ _ _ _ _ fun g=>?_
 simp [af,ah,ad,ae,aa, *,bT,bW,bU]
 refine cz _ _ _ _ _ fun g=>?_
 simp [af,ah,ad,ae,aa, *,bT,bW,bU]
 refine cz _ _ _ _ _ fun g=>?_
 simp [af,ah,ad,ae,aa, *,bT,be_4,by8]
@[simp] theorem Hh (n:Int) (h0:0≤n):limf env 72 [aI n,aI 7]=some (.isl 1 (by8 (be 7 n)) none):=by
 refine aG (fn:=Try.f72) (c:=j1) rfl (by kernel_rfl) (by kernel_rfl) (by kernel_rfl) (by kernel_rfl) ?_;refine so _ _ _ _ fun g=>?_
 have w5:IntKind.i64.wrap (-1) = -1:=rfl
 have w4:IntKind.i64.wrap 0=0:=rfl
 simp [af,ah,ad,ae,aa, *,ml]
 refine cz _ _ _ _ _ fun g=>?_
 simp [af,ah,ad,ae,aa, *,bT,bW,bU]
 refine cz _ _ _ _ _ fun g=>?_
 simp [af,ah,ad,ae,aa, *,bT,bW,bU]
 refine cz _ _ _ _ _ fun g=>?_
 simp [af,ah,ad,ae,aa, *,bT,bW,bU]
 refine cz _ _ _ _ _ fun g=>?_
 simp [af,ah,ad,ae,aa, *,bT,bW,bU]
 refine cz _ _ _ _ _ fun g=>?_
 simp [af,ah,ad,ae,aa, *,bT,bW,bU]
 refine cz _ _ _ _ _ fun g=>?_
 simp [af,ah,ad,ae,aa, *,bT,bW,bU]
 refine cz _ _ _ _ _ fun g=>?_
 simp [af,ah,ad,ae,aa, *,bT,bW,bU]
 refine cz _ _ _ _ _ fun g=>?_
 simp [af,ah,ad,ae,aa, *,bT,be_7,by8]
theorem HG {x5:AV} {Q:AV→Heap→Prop} {l:List UInt8} (hx:Sl 1 (by8 l) x5) (hl:l.length≤7) : ∀(s:List UInt8) (k:Nat) (i a:Int) (H:Heap),l.drop k=s→k≤l.length→i=k→0≤a→a<256 ^ k →
 (∀y H',y=aI (valF a s)→Q y H') →
 GoL env Try.f110 0 jR [(7,aI i),(2,aI a),(5,x5),(6,aI l.length)] H Q:=by
 intro s
 induction s with
 | nil =>
  rintro k i a H hs hk rfl h0 h1 hQ
  obtain rfl:=drop_nil hs hk
  refine sn _ _ _ _ _ _ fun g=>?_
  simp [af,ah,ad,ae,aa, *,mj]
  exact hQ _ _ rfl
 | cons b s ih =>
  rintro k i a H hs hk rfl h0 h1 hQ
  obtain ⟨hlt,hg,hs',hg'⟩:=drop_cons hs
  refine sn _ _ _ _ _ _ fun g=>?_
  have hb:=b.toNat_lt
  have h2:=qi (k:=k) 6 (by omega)
  have e:=z3 h0 (by omega) b
  have e2:=IntWalk.i64_in (a * 256) (by omega)
  have e3:=IntWalk.i64_in ((k:Int)+1) (by omega)
  simp [af,ah,ad,ae,aa, *,mj,qO,hx.idx]
  exact ih (k+1) _ _ _ hs' (by omega) (by simp) (by omega) (by rw [Int.pow_succ];omega) hQ
@[simp] theorem Hg {x:AV} {l:List UInt8} (hx:Sl 1 (by8 l) x) (hl:l.length≤7):limf env 110 [x]=some (aI (val l)):=by
 refine aG (fn:=Try.f110) (c:=pv) rfl (by kernel_rfl) (by kernel_rfl) (by kernel_rfl) (by kernel_rfl) ?_;refine CT _ _ _ fun g=>?_
 have h:=hx.len
 simp [af,ah,ad,ae,aa, *,sa]
 exact HG hx hl l 0 _ _ _ rfl (by omega) rfl (by omega) (by simp) (fun y H' e=>by simp [e,val])
def dD (h:Han):List UInt8:=h.lv :: (be 4 h.cats.toNat++[h.num])
@[simp] theorem yK (h:Han):(dD h).length=6:=by simp [dD]
@[simp] theorem C8 (a:UInt8) (b:UInt32) (n:UInt8):limf env 53 [.agg [a8 a,a32 b,a8 n]]=some (if gS ⟨a,b,n⟩ then .tup [.fsl 1 (by8 (dD ⟨a,b,n⟩)) none,aI 0] else .tup [aNil,aI 8]):=by
 refine aG (fn:=Try.f53) (c:=lM) rfl (by kernel_rfl) (by kernel_rfl) (by kernel_rfl) (by kernel_rfl) ?_;refine uO _ _ _ fun g=>?_
 cases h:gS ⟨a,b,n⟩ with
 | true=>simp [af,ah,ad,ae,aa, *,jl,bad,by8,dD]
 | false=>simp [af,ah,ad,ae,aa, *,jl,bad]
def fE (i:Idd):List UInt8:=dD i.h++be 7 i.n
@[simp] theorem PO (i:Idd):(fE i).length=13:=by simp [fE]
@[simp] theorem Vr (a:UInt8) (b:UInt32) (n:UInt8) (k:Int):limf env 74 [.agg [a8 a,a32 b,a8 n,aI k]]=some (if idB ⟨⟨a,b,n⟩,k⟩ then .tup [.isl 1 (by8 (fE ⟨⟨a,b,n⟩,k⟩)) none,aI 0] else .tup [aNil,aI 8]):=by
 refine aG (fn:=Try.f74) (c:=tL) rfl (by kernel_rfl) (by kernel_rfl) (by kernel_rfl) (by kernel_rfl) ?_;refine Fu _ _ _ fun g=>?_
 cases h:idB ⟨⟨a,b,n⟩,k⟩ with
 | true =>
  have hn:=II h
  have h7:=Hh k (by simp only at hn;omega)
  have hh:gS ⟨a,b,n⟩=true:=by simp only [idB,Bool.and_eq_true] at h;exact h.1
  simp only at hn
  simp [af,ah,ad,ae,aa, *,qZ,bad,by8,fE]
 | false=>simp [af,ah,ad,ae,aa, *,qZ,bad]
theorem No {c:Option Nat} {a n b1 b2 b3 b4:UInt8} (hc:6≤c.getD 6):limf env 94 [.isl 1 [a8 a,a8 b1,a8 b2,a8 b3,a8 b4,a8 n] c]=some (.agg [a8 a,a32 (u32 (val [b1,b2,b3,b4])),a8 n,aI (bad (gS ⟨a,u32 (val [b1,b2,b3,b4]),n⟩))]):=by
 refine aG (fn:=Try.f94) (c:=nj) rfl (by kernel_rfl) (by kernel_rfl) (by kernel_rfl) (by kernel_rfl) ?_;refine tV _ _ _ fun g=>?_
 have hr:=Hg (l:=[b1,b2,b3,b4]) (x := .isl 1 [a8 b1,a8 b2,a8 b3,a8 b4] (c.map (· - 1))) (Sl.mkC (D6 hc (by simp))) (by simp)
 have hv:=vL [b1,b2,b3,b4]
 generalize val [b1,b2,b3,b4]=v at *
 simp [af,ah,ad,ae,aa, *,nn]
theorem vU {c:Option Nat} {a n b1 b2 b3 b4:UInt8} (hc:6≤c.getD 6):limf env 81 [.isl 1 [a8 a,a8 b1,a8 b2,a8 b3,a8 b4,a8 n] c] =
 some (if gS ⟨a,u32 (val [b1,b2,b3,b4]),n⟩ then .tup [.agg [a8 a,a32 (u32 (val [b1,b2,b3,b4])),a8 n],aI 0] else .tup [.agg [a8 0,a32 0,a8 0],aI 8]):=by
 refine aG (fn:=Try.f81) (c:=lN) rfl (by kernel_rfl) (by kernel_rfl) (by kernel_rfl) (by kernel_rfl) ?_;refine uP _ _ _ fun g=>?_
 have hr:=No (a:=a) (n:=n) (b1:=b1) (b2:=b2) (b3:=b3) (b4:=b4) hc
 generalize val [b1,b2,b3,b4]=v at *
 cases h:gS ⟨a,u32 v,n⟩<;>simp [af,ah,ad,ae,aa, *,lP,bad]
theorem Hi {c:Option Nat} {a n b1 b2 b3 b4 d1 d2 d3 d4 d5 d6 d7:UInt8} (hc:13≤c.getD 13):limf env 94 [.isl 1 [a8 a,a8 b1,a8 b2,a8 b3,a8 b4,a8 n,a8 d1,a8 d2,a8 d3,a8 d4,a8 d5,a8 d6,a8 d7] c]=some (.agg [a8 a,a32 (u32 (val [b1,b2,b3,b4])),a8 n,aI (bad (gS ⟨a,u32 (val [b1,b2,b3,b4]),n⟩))]):=by
 refine aG (fn:=Try.f94) (c:=nj) rfl (by kernel_rfl) (by kernel_rfl) (by kernel_rfl) (by kernel_rfl) ?_;refine tV _ _ _ fun g=>?_
 have hr:=Hg (l:=[b1,b2,b3,b4]) (x := .isl 1 [a8 b1,a8 b2,a8 b3,a8 b4] (c.map (· - 1))) (Sl.mkC (D6 hc (by simp))) (by simp)
 have hv:=vL [b1,b2,b3,b4]
 generalize val [b1,b2,b3,b4]=v at *
 simp [af,ah,ad,ae,aa, *,nn]
theorem QE {c:Option Nat} {a n b1 b2 b3 b4 d1 d2 d3 d4 d5 d6 d7:UInt8} (hc:13≤c.getD 13):limf env 111 [.isl 1 [a8 a,a8 b1,a8 b2,a8 b3,a8 b4,a8 n,a8 d1,a8 d2,a8 d3,a8 d4,a8 d5,a8 d6,a8 d7] c] =
 some (if idB ⟨⟨a,u32 (val [b1,b2,b3,b4]),n⟩,val [d1,d2,d3,d4,d5,d6,d7]⟩ then .tup [.agg [a8 a,a32 (u32 (val [b1,b2,b3,b4])),a8 n,aI (val [d1,d2,d3,d4,d5,d6,d7])],aI 0] else .tup [.agg [a8 0,a32 0,a8 0,aI 0],aI 8]):=by
 refine aG (fn:=Try.f111) (c:=tM) rfl (by kernel_rfl) (by kernel_rfl) (by kernel_rfl) (by kernel_rfl) ?_;refine Fv _ _ _ fun g=>?_
 have hr:=Hi (a:=a) (n:=n) (b1:=b1) (b2:=b2) (b3:=b3) (b4:=b4) (d1:=d1) (d2:=d2) (d3:=d3) (d4:=d4) (d5:=d5) (d6:=d6) (d7:=d7) hc
 have hs:=Hg (l:=[d1,d2,d3,d4,d5,d6,d7]) (x := .isl 1 [a8 d1,a8 d2,a8 d3,a8 d4,a8 d5,a8 d6,a8 d7] (c.map (· - 6))) (Sl.mkC (D6 hc (by simp))) (by simp)
 generalize val [b1,b2,b3,b4]=v at *
 generalize val [d1,d2,d3,d4,d5,d6,d7]=w at *
 cases h:idB ⟨⟨a,u32 v,n⟩,w⟩<;>simp [af,ah,ad,ae,aa, *,tT,bad]
end Go.Proofs.Ytmjkpdknicjjgaa
