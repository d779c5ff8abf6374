/-
  Bytes copied and read: what these functions answer. No statement of a seat is proved here.
-/
import Derived.Test.YtiidajnodhkidaaGreatOpBytes
set_option linter.unusedVariables false
set_option linter.unusedSimpArgs false
set_option linter.unusedSectionVars false
set_option linter.unnecessarySimpa false
set_option maxRecDepth 100000
namespace Go.Proofs.YtiidajnodhkidaaGreat
open Go.Ab
attribute [local simp] ct bK bO bN keep thr cC bD bP eE eD cN cB aV dk List.take_of_length_le
theorem I1(c:Option Nat)(b1 b2 b3 b4 b5:UInt8):limf env 197 [.isl 1 [a8 b1,a8 b2,a8 b3,a8 b4,a8 b5] c]=some (.fsl 1 [a8 b1,a8 b2,a8 b3,a8 b4,a8 b5] none):=by
 refine aH (fn:=Tryz.f197) (c:=sy) rfl (by kernel_rfl) (by kernel_rfl) (by kernel_rfl) (by kernel_rfl) ?_;refine yW _ _ _ fun g=>?_
 simp[af,ah,ad,ae,aa, *,sJ]
theorem wK{x y:AV}{l m:List UInt8}(hx:Sl 1 (by8 l) x)(hy:Sl 1 (by8 m) y):limf env 87 [x,y]=some (aB (decide (l=m))):=by
 refine aH (fn:=Tryz.f87) (c:=sv) rfl (by kernel_rfl) (by kernel_rfl) (by kernel_rfl) (by kernel_rfl) ?_;refine yV _ _ _ _ fun g=>?_
 have e : ∀l:List UInt8,by8 l=[]→l=[]:=fun l h=>by simpa [by8] using h
 rcases hx with ⟨rfl,h1⟩ | ⟨c,rfl,h1⟩<;>rcases hy with ⟨rfl,h2⟩ | ⟨c',rfl,h2⟩
 ·obtain rfl:=e l h1
  obtain rfl:=e m h2
  simp[af,ah,ad,ae,aa, *,jJ]
 ·obtain rfl:=e l h1
  simp[af,ah,ad,ae,aa, *,jJ]
  try exact⟨fun h=>h.symm,fun h=>h.symm⟩
 ·obtain rfl:=e m h2
  simp[af,ah,ad,ae,aa, *,jJ]
 ·simp[af,ah,ad,ae,aa, *,jJ]
end Go.Proofs.YtiidajnodhkidaaGreat
namespace Go.Proofs.YtiidajnodhkidaaGreat
open Go.Ab
attribute [local simp] ct bK bO bN keep thr cC bD bP eE eD cN cB aV dk List.take_of_length_le
theorem yi{f:FuncId}(hm:(env.mode f == 2)=true)(dep:Nat)(H:Heap)(r:Ref)(first args captured:List AV) :
 cl env true (limf env) (limt env dep) H r (some (.fn (.func f) first captured)) args=limt env dep (.fn f) (first++args++captured) H:=by
 have h:env.mode f=2:=by simpa using hm
 simp[cl,kj,mc,nRes,orW,h]
def nO(l:List UInt8):Han:=⟨l.getD 0 0,u32 (val ((l.drop 1).take 4)),l.getD 5 0⟩
def kY(l:List UInt8):Idd:=⟨nO l,val (l.drop 6)⟩
theorem Nw{l:List UInt8}(h:l.length=6) : ∃a b c d e f,l=[a,b,c,d,e,f]:=by
 match l,h with
 | [a,b,c,d,e,f],_=>exact⟨a,b,c,d,e,f,rfl⟩
theorem xg{l:List UInt8}(h:l.length=13) : ∃a b c d e f g i j k m n o,l=[a,b,c,d,e,f,g,i,j,k,m,n,o]:=by
 match l,h with
 | [a,b,c,d,e,f,g,i,j,k,m,n,o],_=>exact⟨a,b,c,d,e,f,g,i,j,k,m,n,o,rfl⟩
theorem qE{z:Nat}{es:List AV}{x:AV}(h:Sl z es x)(hne:0<es.length) : ∃c,x = .isl z es c∧es.length≤c.getD es.length:=by
 rcases h with ⟨rfl,rfl⟩ | ⟨c,rfl,h⟩
 ·simp at hne
 ·exact⟨c,rfl,h⟩
theorem ER{v:AV}{l:List UInt8}(hv:Sl 1 (by8 l) v)(hl:l.length=6):limf env 175 [v] =
 some (if iN (nO l) then .tup [.agg [a8 (nO l).lv,a32 (nO l).cats,a8 (nO l).num],aI 0] else .tup [.agg [a8 0,a32 0,a8 0],aI 8]):=by
 obtain⟨a,b,c,d,e,f,rfl⟩:=Nw hl
 obtain⟨cp,rfl,hc⟩:=qE hv (by simp[by8])
 exact xp (by simpa [by8] using hc)
theorem TG{v:AV}{l:List UInt8}(hv:Sl 1 (by8 l) v)(hl:l.length=13):limf env 203 [v] =
 some (if idB (kY l) then .tup [.agg [a8 (kY l).h.lv,a32 (kY l).h.cats,a8 (kY l).h.num,aI (kY l).n],aI 0] else .tup [.agg [a8 0,a32 0,a8 0,aI 0],aI 8]):=by
 obtain⟨a,b,c,d,e,f,g,i,j,k,m,n,o,rfl⟩:=xg hl
 obtain⟨cp,rfl,hc⟩:=qE hv (by simp[by8])
 exact SC (by simpa [by8] using hc)
def tkB(l:List UInt8)(a:Nat)(b:Bool)(n:Nat):Bool:=b||decide (l.length<a+n)
def tkA(l:List UInt8)(a:Nat)(b:Bool)(n:Nat):Nat:=if tkB l a b n then a else a+n
def tkL(l:List UInt8)(a:Nat)(b:Bool)(n:Nat):List UInt8:=if tkB l a b n then List.replicate n 0 else (l.drop a).take n
theorem zL{l:List UInt8}{a:Nat}(b:Bool)(n:Nat)(h:a≤l.length):tkA l a b n≤l.length:=by
 unfold tkA tkB
 split
 ·exact h
 ·rename_i hh;simp at hh;omega
theorem sP{l:List UInt8}{a:Nat}(b:Bool)(n:Nat):(tkL l a b n).length=n:=by
 unfold tkL
 split
 ·simp
 ·rename_i hh;simp[tkB]at hh;simp;omega
def tG(x:AV)(a:Nat)(b:Bool):Blk:=⟨3,[.agg [x,aI a,aB b]],false,false⟩
structure Tk (H H':Heap) (r:Ref) (x:AV) (l bs:List UInt8) (a:Nat) (b:Bool) (y v:AV):Prop where
 seen:mC 1 (by8 bs) H' y v
 fr:Fr H'
 box:H'.get r=some (tG x a b)
 old : ∀q c,q≠r→H.get q=some c→H'.get q=some c
 spot : ∀q,y.at?=some q→q.t=31
theorem Ns(d:Nat){H:Heap}{r:Ref}{x:AV}{l:List UInt8}{a n:Nat}{c:Blk}(hF:Fr H)(hb:H.get r=some c) :
 ∃v,Tk H ((⟨d,31,H.gen d 31,0⟩,some ⟨1,List.replicate n (a8 0),true,false⟩) :: H.put r (some ⟨3,[.agg [x,aI a,aB true]],false,false⟩)) r x l (List.replicate n 0) a true (.osl ⟨d,31,H.gen d 31,0⟩ 0 n none) v:=by
 have l1:(H.get r).isSome=true:=by rw[hb];rfl
 have h31:by8 (List.replicate n 0)=List.replicate n (a8 0):=by simp[by8]
 refine⟨.isl 1 (by8 (List.replicate n 0)) none,?_,by simp(maxDischargeDepth:=12) [Heap.aj,aD,ar,Fr.nil,aP,af,ah,ad,ae,aF,aq,aa, *],?_,?_,?_⟩
 ·refine .inr ⟨⟨d,31,H.gen d 31,0⟩,none,false,?_,?_,rfl,?_⟩
  ·rw[h31];simp
  ·rw[h31];simp
  ·simp
 ·rw[Heap.gV,if_neg (mo hF l1 _ _ _),Heap.aj,if_pos rfl];rfl
 ·intro q c' hq hc
  rw[Heap.gV,if_neg (mo hF (by rw[hc];rfl) _ _ _),Heap.aj,if_neg (fun e=>hq e)]
  exact hc
 ·intro q e;cases e;rfl
theorem Sj{H:Heap}{r:Ref}{x y:AV}{l bs:List UInt8}{a:Nat}{c:Blk}{b1 b2:Option Blk}(hF:Fr H)(hb:H.get r=some c)(hy:Sl 1 (by8 bs) y)(hb1 : ∃c1,b1=some c1)(hb2:b2=some ⟨3,[.agg [x,aI a,aB false]],false,false⟩) :
 ∃v,Tk H ((H.put r b1).put r b2) r x l bs a false y v:=by
 have l1:(H.get r).isSome=true:=by rw[hb];rfl
 subst hb2
 refine⟨y,mC.of hy _,?_,?_,?_,?_⟩
 ·obtain⟨c1,rfl⟩:=hb1
  exact by simp(maxDischargeDepth:=12) [Heap.aj,aD,ar,Fr.nil,aP,af,ah,ad,ae,aF,aq,aa, *]
 ·rw[Heap.aj,if_pos rfl];rfl
 ·intro q c' hq hc
  rw[Heap.aj,if_neg (fun e=>hq e),Heap.aj,if_neg (fun e=>hq e)]
  exact hc
 ·intro q e
  rcases hy with ⟨rfl,_⟩ | ⟨c,rfl,_⟩<;>cases e
theorem OD(dep:Nat){H:Heap}{r:Ref}{x:AV}{l:List UInt8}{a:Nat}{b:Bool}(n:Nat)(hF:Fr H)(hx:Sl 1 (by8 l) x)(hb:H.get r=some (tG x a b))(ha:a≤l.length)(hl:l.length<1000000000)(hn:n<1000000) :
 ∃y H',limt env dep (.fn 194) [.ptr r 0 0,aI n] H=some (y,H') ∧∃v,Tk H H' r x l (tkL l a b n) (tkA l a b n) (tkB l a b n) y v:=by
 refine rD (fn:=Tryz.f194) (c:=ig) (by kernel_rfl) (by kernel_rfl) (by kernel_rfl) (by kernel_rfl) (by kernel_rfl) ?_
 refine kT _ _ _ _ _ fun g=>?_
 unfold tG at hb
 have hlen:=hx.len
 have w1:=IntWalk.i64_in ((l.length:Int) - a) (by omega)
 have hm:=fun r=>wN (P:=env.P) (r:=r) (t:=76) (z:=1) (by':=1) (zz:=a8 0) (by kernel_rfl) (by kernel_rfl) (n:=n) (by unfold cN;omega) (by omega)
 have h31:by8 (List.replicate n 0)=List.replicate n (a8 0):=by simp[by8]
 cases b with
 | true =>
  have hB:tkB l a true n=true:=rfl
  have hA:tkA l a true n=a:=rfl
  have hL:tkL l a true n=List.replicate n 0:=rfl
  simp[af,ah,ad,ae,aa, *,dT,hb]
  exact Ns _ hF hb
 | false =>
  by_cases hlt:(l.length:Int) - a<n
  ·have hB:tkB l a false n=true:=by simp only[tkB,Bool.false_or,decide_eq_true_eq];omega
   have hA:tkA l a false n=a:=by unfold tkA;rw[hB];rfl
   have hL:tkL l a false n=List.replicate n 0:=by unfold tkL;rw[hB];rfl
   have hd:decide ((l.length:Int) - a<n)=true:=decide_eq_true hlt
   clear hlt
   simp[af,ah,ad,ae,aa, *,dT,hb]
   exact Ns _ hF hb
  ·have hB:tkB l a false n=false:=by simp only[tkB,Bool.false_or,decide_eq_false_iff_not];omega
   have hA:tkA l a false n=a+n:=by unfold tkA;rw[hB];rfl
   have hL:tkL l a false n=(l.drop a).take n:=by unfold tkL;rw[hB];rfl
   have hd:decide ((l.length:Int) - a<n)=false:=decide_eq_false hlt
   have w2:=IntWalk.i64_in ((a:Int)+n) (by omega)
   have w4:=IntWalk.i64_in (a:Int) (by omega)
   have w3:=IntWalk.i64_in ((a:Int)+n - n) (by omega)
   have e3:(a:Int)+n - n=a:=by omega
   rw[e3]at w3
   have hlt':a+n≤l.length:=by omega
   have hsl:=fun g=>xj (P:=env.P) (t:=76) (z:=1) (by kernel_rfl) g hx (lo:=(a:Int)) (hi:=(a:Int)+n) (by omega) (by omega) (by simp;omega)
   have et:((a:Int)+n).toNat - (a:Int).toNat=n:=by omega
   rw[et,Int.toNat_natCast]at hsl
   clear hlt et e3
   simp[af,ah,ad,ae,aa, *,dT,hb]
   obtain⟨y,hy,hyS⟩:=hsl _
   refine T3 hy ?_
   have hS:Sl 1 (by8 ((l.drop a).take n)) y:=by simpa [by8] using hyS
   rw[hA,hB,hL]
   exact Sj hF hb hS ⟨_,rfl⟩ rfl
end Go.Proofs.YtiidajnodhkidaaGreat
