/-
  A reader of bytes: what it takes. No statement of a seat is proved here.
-/
import Derived.Test.YtmjkpdknicjjgaaRdFns
set_option linter.unusedVariables false
set_option linter.unusedSimpArgs false
set_option linter.unusedSectionVars false
set_option linter.unnecessarySimpa false
set_option maxRecDepth 100000
namespace Go.Proofs.Ytmjkpdknicjjgaa
open Go.Ab
attribute [local simp] cb bC bG bF keep thr cy bB bH eF eE bX cx aO cZ List.take_of_length_le
theorem wS {f:FuncId} (hm:(env.mode f == 2)=true) (dep:Nat) (H:Heap) (r:Ref) (first args captured:List AV) :
 ak env true (limf env) (limt env dep) H r (some (.fn (.func f) first captured)) args=limt env dep (.fn f) (first++args++captured) H:=by
 have h:env.mode f=2:=by simpa using hm
 simp [ak,jB,lz,nRes,orW,h]
def mW (l:List UInt8):Han:=⟨l.getD 0 0,u32 (val ((l.drop 1).take 4)),l.getD 5 0⟩
def kB (l:List UInt8):Idd:=⟨mW l,val (l.drop 6)⟩
theorem L3 {l:List UInt8} (h:l.length=6) : ∃a b c d e f,l=[a,b,c,d,e,f]:=by
 match l,h with
 | [a,b,c,d,e,f],_=>exact ⟨a,b,c,d,e,f,rfl⟩
theorem vP {l:List UInt8} (h:l.length=13) : ∃a b c d e f g i j k m n o,l=[a,b,c,d,e,f,g,i,j,k,m,n,o]:=by
 match l,h with
 | [a,b,c,d,e,f,g,i,j,k,m,n,o],_=>exact ⟨a,b,c,d,e,f,g,i,j,k,m,n,o,rfl⟩
theorem qb {z:Nat} {es:List AV} {x:AV} (h:Sl z es x) (hne:0<es.length) : ∃c,x = .isl z es c∧es.length≤c.getD es.length:=by
 rcases h with ⟨rfl,rfl⟩ | ⟨c,rfl,h⟩
 ·simp at hne
 ·exact ⟨c,rfl,h⟩
theorem DI {v:AV} {l:List UInt8} (hv:Sl 1 (by8 l) v) (hl:l.length=6):limf env 81 [v] =
 some (if gS (mW l) then .tup [.agg [a8 (mW l).lv,a32 (mW l).cats,a8 (mW l).num],aI 0] else .tup [.agg [a8 0,a32 0,a8 0],aI 8]):=by
 obtain ⟨a,b,c,d,e,f,rfl⟩:=L3 hl
 obtain ⟨cp,rfl,hc⟩:=qb hv (by simp [by8])
 exact vU (by simpa [by8] using hc)
theorem Rw {v:AV} {l:List UInt8} (hv:Sl 1 (by8 l) v) (hl:l.length=13):limf env 111 [v] =
 some (if idB (kB l) then .tup [.agg [a8 (kB l).h.lv,a32 (kB l).h.cats,a8 (kB l).h.num,aI (kB l).n],aI 0] else .tup [.agg [a8 0,a32 0,a8 0,aI 0],aI 8]):=by
 obtain ⟨a,b,c,d,e,f,g,i,j,k,m,n,o,rfl⟩:=vP hl
 obtain ⟨cp,rfl,hc⟩:=qb hv (by simp [by8])
 exact QE (by simpa [by8] using hc)
def tkB (l:List UInt8) (a:Nat) (b:Bool) (n:Nat):Bool:=b||decide (l.length<a+n)
def tkA (l:List UInt8) (a:Nat) (b:Bool) (n:Nat):Nat:=if tkB l a b n then a else a+n
def tkL (l:List UInt8) (a:Nat) (b:Bool) (n:Nat):List UInt8:=if tkB l a b n then List.replicate n 0 else (l.drop a).take n
theorem yp {l:List UInt8} {a:Nat} (b:Bool) (n:Nat) (h:a≤l.length):tkA l a b n≤l.length:=by
 unfold tkA tkB
 split
 ·exact h
 ·rename_i hh;simp at hh;omega
theorem rE {l:List UInt8} {a:Nat} (b:Bool) (n:Nat):(tkL l a b n).length=n:=by
 unfold tkL
 split
 ·simp
 ·rename_i hh;simp [tkB] at hh;simp;omega
def sG (x:AV) (a:Nat) (b:Bool):Blk:=⟨3,[.agg [x,aI a,aB b]],false,false⟩
structure Tk (H H':Heap) (r:Ref) (x:AV) (l bs:List UInt8) (a:Nat) (b:Bool) (y v:AV):Prop where
 seen:lQ 1 (by8 bs) H' y v
 fr:Fr H'
 box:H'.get r=some (sG x a b)
 old : ∀q c,q≠r→H.get q=some c→H'.get q=some c
 spot : ∀q,y.at?=some q→q.t=31
theorem L0 (d:Nat) {H:Heap} {r:Ref} {x:AV} {l:List UInt8} {a n:Nat} {c:Blk} (hF:Fr H) (hb:H.get r=some c) :
 ∃v,Tk H ((⟨d,31,H.gen d 31,0⟩,some ⟨1,List.replicate n (a8 0),true,false⟩) :: H.put r (some ⟨3,[.agg [x,aI a,aB true]],false,false⟩)) r x l (List.replicate n 0) a true (.osl ⟨d,31,H.gen d 31,0⟩ 0 n none) v:=by
 have l1:(H.get r).isSome=true:=by rw [hb];rfl
 have h31:by8 (List.replicate n 0)=List.replicate n (a8 0):=by simp [by8]
 refine ⟨.isl 1 (by8 (List.replicate n 0)) none,?_,by simp (maxDischargeDepth:=12) [Heap.aj,az,ar,Fr.nil,aL,af,ah,ad,ae,aA,aq,aa, *],?_,?_,?_⟩
 ·refine .inr ⟨⟨d,31,H.gen d 31,0⟩,none,false,?_,?_,rfl,?_⟩
  ·rw [h31];simp
  ·rw [h31];simp
  ·simp
 ·rw [Heap.fS,if_neg (lI hF l1 _ _ _),Heap.aj,if_pos rfl];rfl
 ·intro q c' hq hc
  rw [Heap.fS,if_neg (lI hF (by rw [hc];rfl) _ _ _),Heap.aj,if_neg (fun e=>hq e)]
  exact hc
 ·intro q e;cases e;rfl
theorem Qr {H:Heap} {r:Ref} {x y:AV} {l bs:List UInt8} {a:Nat} {c:Blk} {b1 b2:Option Blk} (hF:Fr H) (hb:H.get r=some c) (hy:Sl 1 (by8 bs) y) (hb1 : ∃c1,b1=some c1) (hb2:b2=some ⟨3,[.agg [x,aI a,aB false]],false,false⟩) :
 ∃v,Tk H ((H.put r b1).put r b2) r x l bs a false y v:=by
 have l1:(H.get r).isSome=true:=by rw [hb];rfl
 subst hb2
 refine ⟨y,lQ.of hy _,?_,?_,?_,?_⟩
 ·obtain ⟨c1,rfl⟩:=hb1
  exact by simp (maxDischargeDepth:=12) [Heap.aj,az,ar,Fr.nil,aL,af,ah,ad,ae,aA,aq,aa, *]
 ·rw [Heap.aj,if_pos rfl];rfl
 ·intro q c' hq hc
  rw [Heap.aj,if_neg (fun e=>hq e),Heap.aj,if_neg (fun e=>hq e)]
  exact hc
 ·intro q e
  rcases hy with ⟨rfl,_⟩ | ⟨c,rfl,_⟩<;>cases e
theorem M6 (dep:Nat) {H:Heap} {r:Ref} {x:AV} {l:List UInt8} {a:Nat} {b:Bool} (n:Nat) (hF:Fr H) (hx:Sl 1 (by8 l) x) (hb:H.get r=some (sG x a b)) (ha:a≤l.length) (hl:l.length<1000000000) (hn:n<1000000) :
 ∃y H',limt env dep (.fn 95) [.ptr r 0 0,aI n] H=some (y,H') ∧ ∃v,Tk H H' r x l (tkL l a b n) (tkA l a b n) (tkB l a b n) y v:=by
 refine qR (fn:=Try.f95) (c:=ei) (by kernel_rfl) (by kernel_rfl) (by kernel_rfl) (by kernel_rfl) (by kernel_rfl) ?_
 refine kr _ _ _ _ _ fun g=>?_
 unfold sG at hb
 have hlen:=hx.len
 have w1:=IntWalk.i64_in ((l.length:Int) - a) (by omega)
 have hm:=fun r=>vk (P:=env.P) (r:=r) (t:=68) (z:=1) (by':=1) (zz:=a8 0) (by kernel_rfl) (by kernel_rfl) (n:=n) (by unfold bX;omega) (by omega)
 have h31:by8 (List.replicate n 0)=List.replicate n (a8 0):=by simp [by8]
 cases b with
 | true =>
  have hB:tkB l a true n=true:=rfl
  have hA:tkA l a true n=a:=rfl
  have hL:tkL l a true n=List.replicate n 0:=rfl
  simp [af,ah,ad,ae,aa, *,cD,hb]
  exact L0 _ hF hb
 | false =>
  by_cases hlt:(l.length:Int) - a<n
  ·have hB:tkB l a false n=true:=by simp only [tkB,Bool.false_or,decide_eq_true_eq];omega
   have hA:tkA l a false n=a:=by unfold tkA;rw [hB];rfl
   have hL:tkL l a false n=List.replicate n 0:=by unfold tkL;rw [hB];rfl
   have hd:decide ((l.length:Int) - a<n)=true:=decide_eq_true hlt
   clear hlt
   simp [af,ah,ad,ae,aa, *,cD,hb]
   exact L0 _ hF hb
  ·have hB:tkB l a false n=false:=by simp only [tkB,Bool.false_or,decide_eq_false_iff_not];omega
   have hA:tkA l a false n=a+n:=by unfold tkA;rw [hB];rfl
   have hL:tkL l a false n=(l.drop a).take n:=by unfold tkL;rw [hB];rfl
   have hd:decide ((l.length:Int) - a<n)=false:=decide_eq_false hlt
   have w2:=IntWalk.i64_in ((a:Int)+n) (by omega)
   have w4:=IntWalk.i64_in (a:Int) (by omega)
   have w3:=IntWalk.i64_in ((a:Int)+n - n) (by omega)
   have e3:(a:Int)+n - n=a:=by omega
   rw [e3] at w3
   have hlt':a+n≤l.length:=by omega
   have hsl:=fun g=>vS (P:=env.P) (t:=68) (z:=1) (by kernel_rfl) g hx (lo:=(a:Int)) (hi:=(a:Int)+n) (by omega) (by omega) (by simp;omega)
   have et:((a:Int)+n).toNat - (a:Int).toNat=n:=by omega
   rw [et,Int.toNat_natCast] at hsl
   clear hlt et e3
   simp [af,ah,ad,ae,aa, *,cD,hb]
   obtain ⟨y,hy,hyS⟩:=hsl _
   refine RO hy ?_
   have hS:Sl 1 (by8 ((l.drop a).take n)) y:=by simpa [by8] using hyS
   rw [hA,hB,hL]
   exact Qr hF hb hS ⟨_,rfl⟩ rfl
end Go.Proofs.Ytmjkpdknicjjgaa
