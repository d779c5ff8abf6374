/-
  Handles and ids as bytes: what these functions answer. No statement of a seat is proved here.
-/
import Derived.Test.YtmjkpdknicjjgaaMIdsFns
set_option linter.unusedVariables false
set_option linter.unusedSimpArgs false
set_option linter.unusedSectionVars false
set_option linter.unnecessarySimpa false
set_option maxRecDepth 100000
namespace Go.Proofs.Ytmjkpdknicjjgaa
open Go.Ab
attribute [local simp] bU bB bD bC keep thr cg bA bE ek ej bW cf aO cW List.take_of_length_le
@[simp] theorem P6 (n:Int) (h0:0≤n):limf env 72 [aI n,aI 4]=some (.isl 1 (by8 (be 4 n)) none):=by
 refine aG (fn:=Try.f72) (c:=jW) rfl (by kernel_rfl) (by kernel_rfl) (by kernel_rfl) (by kernel_rfl) ?_;refine sc _ _ _ _ fun g=>?_
 have w5:IntKind.i64.wrap (-1) = -1:=rfl
 have w4:IntKind.i64.wrap 0=0:=rfl
 simp [af,ah,ad,ae,aa, *,mf]
 refine cx _ _ _ _ _ fun g=>?_
 simp [af,ah,ad,ae,aa, *,bP,bT,bR]
 refine cx _ _ _ _ _ fun g=>?_
 simp [af,ah,ad,ae,aa, *,bP,bT,bR]
 refine cx _ _ _ _ _ fun g=>?_
 simp [af,ah,ad,ae,aa, *,bP,bT,bR]
 refine cx _ _ _ _ _ fun g=>?_
 simp [af,ah,ad,ae,aa, *,bP,bT,bR]
 refine cx _ _ _ _ _ fun g=>?_
 simp [af,ah,ad,ae,aa, *,bP,be_4,by8]
@[simp] theorem GU (n:Int) (h0:0≤n):limf env 72 [aI n,aI 7]=some (.isl 1 (by8 (be 7 n)) none):=by
 refine aG (fn:=Try.f72) (c:=jW) rfl (by kernel_rfl) (by kernel_rfl) (by kernel_rfl) (by kernel_rfl) ?_;refine sc _ _ _ _ fun g=>?_
 have w5:IntKind.i64.wrap (-1) = -1:=rfl
 have w4:IntKind.i64.wrap 0=0:=rfl
 simp [af,ah,ad,ae,aa, *,mf]
 refine cx _ _ _ _ _ fun g=>?_
 simp [af,ah,ad,ae,aa, *,bP,bT,bR]
 refine cx _ _ _ _ _ fun g=>?_
 simp [af,ah,ad,ae,aa, *,bP,bT,bR]
 refine cx _ _ _ _ _ fun g=>?_
 simp [af,ah,ad,ae,aa, *,bP,bT,bR]
 refine cx _ _ _ _ _ fun g=>?_
 simp [af,ah,ad,ae,aa, *,bP,bT,bR]
 refine cx _ _ _ _ _ fun g=>?_
 simp [af,ah,ad,ae,aa, *,bP,bT,bR]
 refine cx _ _ _ _ _ fun g=>?_
 simp [af,ah,ad,ae,aa, *,bP,bT,bR]
 refine cx _ _ _ _ _ fun g=>?_
 simp [af,ah,ad,ae,aa, *,bP,bT,bR]
 refine cx _ _ _ _ _ fun g=>?_
 simp [af,ah,ad,ae,aa, *,bP,be_7,by8]
theorem Hh {x5:AV} {Q:AV→Heap→Prop} {l:List UInt8} (hx:Sl 1 (by8 l) x5) (hl:l.length≤7) : ∀(s:List UInt8) (k:Nat) (i a:Int) (H:Heap),l.drop k=s→k≤l.length→i=k→0≤a→a<256 ^ k →
 (∀y H',y=aI (valF a s)→Q y H') →
 GoL env Try.f110 0 jO [(7,aI i),(2,aI a),(5,x5),(6,aI l.length)] H Q:=by
 intro s
 induction s with
 | nil =>
  rintro k i a H hs hk rfl h0 h1 hQ
  obtain rfl:=drop_nil hs hk
  refine sb _ _ _ _ _ _ fun g=>?_
  simp [af,ah,ad,ae,aa, *,me]
  exact hQ _ _ rfl
 | cons b s ih =>
  rintro k i a H hs hk rfl h0 h1 hQ
  obtain ⟨hlt,hg,hs',hg'⟩:=drop_cons hs
  refine sb _ _ _ _ _ _ fun g=>?_
  have hb:=b.toNat_lt
  have h2:=p9 (k:=k) 6 (by omega)
  have e:=zR h0 (by omega) b
  have e2:=IntWalk.i64_in (a * 256) (by omega)
  have e3:=IntWalk.i64_in ((k:Int)+1) (by omega)
  simp [af,ah,ad,ae,aa, *,me,qH,hx.idx]
  exact ih (k+1) _ _ _ hs' (by omega) (by simp) (by omega) (by rw [Int.pow_succ];omega) hQ
@[simp] theorem GS {x:AV} {l:List UInt8} (hx:Sl 1 (by8 l) x) (hl:l.length≤7):limf env 110 [x]=some (aI (val l)):=by
 refine aG (fn:=Try.f110) (c:=pj) rfl (by kernel_rfl) (by kernel_rfl) (by kernel_rfl) (by kernel_rfl) ?_;refine CK _ _ _ fun g=>?_
 have h:=hx.len
 simp [af,ah,ad,ae,aa, *,rU]
 exact Hh hx hl l 0 _ _ _ rfl (by omega) rfl (by omega) (by simp) (fun y H' e=>by simp [e,val])
def dC (h:Han):List UInt8:=h.lv :: (be 4 h.cats.toNat++[h.num])
@[simp] theorem yx (h:Han):(dC h).length=6:=by simp [dC]
@[simp] theorem CX (a:UInt8) (b:UInt32) (n:UInt8):limf env 53 [.agg [a8 a,a32 b,a8 n]]=some (if gN ⟨a,b,n⟩ then .tup [.fsl 1 (by8 (dC ⟨a,b,n⟩)) none,aI 0] else .tup [aNil,aI 8]):=by
 refine aG (fn:=Try.f53) (c:=lK) rfl (by kernel_rfl) (by kernel_rfl) (by kernel_rfl) (by kernel_rfl) ?_;refine uC _ _ _ fun g=>?_
 cases h:gN ⟨a,b,n⟩ with
 | true=>simp [af,ah,ad,ae,aa, *,jh,bad,by8,dC]
 | false=>simp [af,ah,ad,ae,aa, *,jh,bad]
def fC (i:Idd):List UInt8:=dC i.h++be 7 i.n
@[simp] theorem Ph (i:Idd):(fC i).length=13:=by simp [fC]
@[simp] theorem U1 (a:UInt8) (b:UInt32) (n:UInt8) (k:Int):limf env 74 [.agg [a8 a,a32 b,a8 n,aI k]]=some (if idB ⟨⟨a,b,n⟩,k⟩ then .tup [.isl 1 (by8 (fC ⟨⟨a,b,n⟩,k⟩)) none,aI 0] else .tup [aNil,aI 8]):=by
 refine aG (fn:=Try.f74) (c:=tA) rfl (by kernel_rfl) (by kernel_rfl) (by kernel_rfl) (by kernel_rfl) ?_;refine E4 _ _ _ fun g=>?_
 cases h:idB ⟨⟨a,b,n⟩,k⟩ with
 | true =>
  have hn:=Ih h
  have h7:=GU k (by simp only at hn;omega)
  have hh:gN ⟨a,b,n⟩=true:=by simp only [idB,Bool.and_eq_true] at h;exact h.1
  simp only at hn
  simp [af,ah,ad,ae,aa, *,qR,bad,by8,fC]
 | false=>simp [af,ah,ad,ae,aa, *,qR,bad]
theorem ML {c:Option Nat} {a n b1 b2 b3 b4:UInt8} (hc:6≤c.getD 6):limf env 94 [.isl 1 [a8 a,a8 b1,a8 b2,a8 b3,a8 b4,a8 n] c]=some (.agg [a8 a,a32 (u32 (val [b1,b2,b3,b4])),a8 n,aI (bad (gN ⟨a,u32 (val [b1,b2,b3,b4]),n⟩))]):=by
 refine aG (fn:=Try.f94) (c:=nj) rfl (by kernel_rfl) (by kernel_rfl) (by kernel_rfl) (by kernel_rfl) ?_;refine tI _ _ _ fun g=>?_
 have hr:=GS (l:=[b1,b2,b3,b4]) (x := .isl 1 [a8 b1,a8 b2,a8 b3,a8 b4] (c.map (· - 1))) (Sl.mkC (DJ hc (by simp))) (by simp)
 have hv:=vB [b1,b2,b3,b4]
 generalize val [b1,b2,b3,b4]=v at *
 simp [af,ah,ad,ae,aa, *,nn]
theorem vL {c:Option Nat} {a n b1 b2 b3 b4:UInt8} (hc:6≤c.getD 6):limf env 81 [.isl 1 [a8 a,a8 b1,a8 b2,a8 b3,a8 b4,a8 n] c] =
 some (if gN ⟨a,u32 (val [b1,b2,b3,b4]),n⟩ then .tup [.agg [a8 a,a32 (u32 (val [b1,b2,b3,b4])),a8 n],aI 0] else .tup [.agg [a8 0,a32 0,a8 0],aI 8]):=by
 refine aG (fn:=Try.f81) (c:=lL) rfl (by kernel_rfl) (by kernel_rfl) (by kernel_rfl) (by kernel_rfl) ?_;refine uD _ _ _ fun g=>?_
 have hr:=ML (a:=a) (n:=n) (b1:=b1) (b2:=b2) (b3:=b3) (b4:=b4) hc
 generalize val [b1,b2,b3,b4]=v at *
 cases h:gN ⟨a,u32 v,n⟩<;>simp [af,ah,ad,ae,aa, *,lN,bad]
theorem GV {c:Option Nat} {a n b1 b2 b3 b4 d1 d2 d3 d4 d5 d6 d7:UInt8} (hc:13≤c.getD 13):limf env 94 [.isl 1 [a8 a,a8 b1,a8 b2,a8 b3,a8 b4,a8 n,a8 d1,a8 d2,a8 d3,a8 d4,a8 d5,a8 d6,a8 d7] c]=some (.agg [a8 a,a32 (u32 (val [b1,b2,b3,b4])),a8 n,aI (bad (gN ⟨a,u32 (val [b1,b2,b3,b4]),n⟩))]):=by
 refine aG (fn:=Try.f94) (c:=nj) rfl (by kernel_rfl) (by kernel_rfl) (by kernel_rfl) (by kernel_rfl) ?_;refine tI _ _ _ fun g=>?_
 have hr:=GS (l:=[b1,b2,b3,b4]) (x := .isl 1 [a8 b1,a8 b2,a8 b3,a8 b4] (c.map (· - 1))) (Sl.mkC (DJ hc (by simp))) (by simp)
 have hv:=vB [b1,b2,b3,b4]
 generalize val [b1,b2,b3,b4]=v at *
 simp [af,ah,ad,ae,aa, *,nn]
theorem Qa {c:Option Nat} {a n b1 b2 b3 b4 d1 d2 d3 d4 d5 d6 d7:UInt8} (hc:13≤c.getD 13):limf env 111 [.isl 1 [a8 a,a8 b1,a8 b2,a8 b3,a8 b4,a8 n,a8 d1,a8 d2,a8 d3,a8 d4,a8 d5,a8 d6,a8 d7] c] =
 some (if idB ⟨⟨a,u32 (val [b1,b2,b3,b4]),n⟩,val [d1,d2,d3,d4,d5,d6,d7]⟩ then .tup [.agg [a8 a,a32 (u32 (val [b1,b2,b3,b4])),a8 n,aI (val [d1,d2,d3,d4,d5,d6,d7])],aI 0] else .tup [.agg [a8 0,a32 0,a8 0,aI 0],aI 8]):=by
 refine aG (fn:=Try.f111) (c:=tB) rfl (by kernel_rfl) (by kernel_rfl) (by kernel_rfl) (by kernel_rfl) ?_;refine E5 _ _ _ fun g=>?_
 have hr:=GV (a:=a) (n:=n) (b1:=b1) (b2:=b2) (b3:=b3) (b4:=b4) (d1:=d1) (d2:=d2) (d3:=d3) (d4:=d4) (d5:=d5) (d6:=d6) (d7:=d7) hc
 have hs:=GS (l:=[d1,d2,d3,d4,d5,d6,d7]) (x := .isl 1 [a8 d1,a8 d2,a8 d3,a8 d4,a8 d5,a8 d6,a8 d7] (c.map (· - 6))) (Sl.mkC (DJ hc (by simp))) (by simp)
 generalize val [b1,b2,b3,b4]=v at *
 generalize val [d1,d2,d3,d4,d5,d6,d7]=w at *
 cases h:idB ⟨⟨a,u32 v,n⟩,w⟩<;>simp [af,ah,ad,ae,aa, *,tG,bad]
end Go.Proofs.Ytmjkpdknicjjgaa
