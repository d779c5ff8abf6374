/-
  A run written over. No statement of a seat is proved here.
-/
import Derived.Test.YtjampffmlnplcaaRnRef2
set_option linter.unusedVariables false
set_option linter.unusedSimpArgs false
set_option linter.unusedSectionVars false
set_option linter.unnecessarySimpa false
set_option maxRecDepth 100000
namespace Go.Proofs.Ytjampffmlnplcaa
open Go.Ab
attribute [local simp] fK ek iQ own3 iR eo keep thr fL ew eu ky ku dJ List.take_of_length_le
def kU(z:Nat):List AV→AV
 | []=>aNil
 | es => .isl z es none
@[simp] theorem ao(z:Nat):kU z []=aNil:=id rfl
theorem ad(z:Nat){es:List AV}(h:es≠[]):kU z es = .isl z es none:=by
 cases es with
 | nil=>exact(h rfl).elim
 | cons _ _=>rfl
theorem iT(z:Nat)(es:List AV):Sl z es (kU z es):=by
 cases es with
 | nil=>exact .inl ⟨rfl,rfl⟩
 | cons _ _=>exact Sl.mk _ _
theorem qC(z:Nat)(es:List AV):nF (kU z es)=outA z es:=by
 cases es<;>rfl
theorem wF{f:FuncId}(hm:(env.mode f == 2)=true)(dep:Nat)(H:Heap)(r:Ref)(first args captured:List AV) :
 cY env true (limf env) (limt env dep) H r (some (.fn (.func f) first captured)) args=limt env dep (.fn f) (first++args++captured) H:=by
 have h:env.mode f=2:=by simpa using hm
 simp[cY,eS,gk,nRes,orW,h]
theorem aG{f:FuncId}(hm:(env.mode f == 2)=false)(wk:Bool)(dep:Nat){H:Heap}(r:Ref){args xs:List AV}(hv:args.mapM (view H.get depth)=some xs)(hr:aY H.get args=[]){y:AV}(hy:limf env f xs=some y) :
 hZ env wk (limf env) (limt env dep) H r (some (.fn (.func f) [] [])) args=some ((aE r depth y []).1,keyed r 0 (frzB true (aE r depth y []).2) H):=by
 have hm':env.mode f≠2:=by simpa using hm
 have e:([]++args++[]:List AV)=args:=by simp
 unfold hZ
 simp only[eS,if_neg hm',e,hv,hy,hr]
 simp[fY,nRes,orW]
theorem pL{es:List Int}{i:Nat}{v:Int}(hv:es[i]?=some v)(n:Int):dX (rows es) i 0 [.v (.int .i32 n)]=some (rows (es.set i n)):=by
 have hlt:i<es.length:=by
  rcases Nat.lt_or_ge i es.length with h | h
  ·exact h
  ·rw[List.getElem?_eq_none h]at hv;cases hv
 unfold dX rows
 simp[hv,List.map_set,aR]
def frB(H:Heap):Bool:=H.all fun p=>Nat.blt p.1.g (H.gen p.1.d p.1.t)
theorem get_mem{q:Ref}{b:Blk} : ∀ {H:Heap},H.get q=some b→(q,some b)∈H
 | [],h=>by cases h
 | (r,c) :: H,h=>by
  rw[Heap.get]at h
  split at h
  ·rename_i e;subst e;subst h;exact List.mem_cons_self
  ·exact List.mem_cons_of_mem _ (get_mem h)
theorem bz{H:Heap}(h:frB H=true):Fr H:=by
 intro d t g k hg
 cases hh:H.get ⟨d,t,g,k⟩ with
 | none=>rfl
 | some b =>
  have hm:=get_mem hh
  have h2:=List.all_eq_true.1 h _ hm
  rw[Nat.blt_eq]at h2
  exact absurd h2 (Nat.not_lt.2 hg)
def yy(x:AV)(l:List Int)(H:Heap):Prop:=(x=aNil∧l=[]) ∨∃r c,x = .osl r 0 l.length c∧H.get r=some ⟨1,rows l,true,false⟩
theorem tw(dep:Nat)(a_1:UInt8)(a_2:UInt32)(a_3:UInt8)(a_4:Int)(a_5:Int)(a_6:UInt8)(a_7:UInt32)(a_8:UInt8)(a_9:Int){r1:Ref}{x:AV}(hx1:x.at?≠some r1){H0:Heap}{Q:AV→Heap→Prop}(hQ : ∀y H',Fr H'→(∀q,x.at?≠some q→H'.get q=H0.get q)→Q y H') :
 ∀(d k:Nat)(i:Int)(l:List Int)(H:Heap),k+d=l.length→l.length<100000→i=k→Fr H→H.get r1=some ⟨10,[.agg [a8 a_1,a32 a_2,a8 a_3,aI a_4,aI a_5,a8 a_6,a32 a_7,a8 a_8,aI a_9,x]],false,false⟩→yy x l H→(∀q,x.at?≠some q→H.get q=H0.get q) →
 GoL env Try.f33 (dep+1) bW [(2,aI i),(1,.ptr r1 0 0)] H Q:=by
 intro d
 induction d with
 | zero =>
  rintro k i l H hk hl rfl hF hb hM hs
  have hfin:=hQ (.v (.tuple #[])) H hF hs
  refine dU _ _ _ _ _ fun g=>?_
  have hk' : ¬(k:Int)<l.length:=by omega
  clear hs hQ
  rcases hM with ⟨rfl,rfl⟩ | ⟨r,c,rfl,hr⟩
  ·have hk2 : ¬(k:Int)<0:=by omega
   simp[ar,au,ae,af,ab, *,bX]
   all_goals exact hfin
  ·simp[ar,au,ae,af,ab, *,bX]
   all_goals exact hfin
 | succ d ih =>
  rintro k i l H hk hl rfl hF hb hM hs
  have hlt:k<l.length:=by omega
  have e3:=IntWalk.i64_in ((k:Int)+1) (by omega)
  rcases hM with ⟨rfl,rfl⟩ | ⟨r,c,rfl,hr⟩
  ·simp at hlt
  ·have n1:r≠r1:=fun e=>hx1 (by rw[e];rfl)
   have n2:=n1.symm
   obtain⟨v,hv⟩ : ∃v,l[k]?=some v:=⟨_,List.getElem?_eq_getElem hlt⟩
   have hrd:ed (rows l) k 0 1 false=some (.v (.int .i32 v)):=by simp[rows,hv,aR]
   have hrs:=pL hv (IntKind.i32.wrap (v+1))
   have hlen:(rows l).length=l.length:=by simp
   have lr:(H.get r).isSome=true:=by rw[hr];rfl
   have hih:=ih (k+1) ((k:Int)+1) (l.set k (IntKind.i32.wrap (v+1))) (H.put r (some ⟨1,rows (l.set k (IntKind.i32.wrap (v+1))),true,false⟩)) (by simp;omega) (by simpa using hl) (by simp) (y9 hF lr _) (by rw[Heap.ca,if_neg n2];exact hb) (.inr ⟨r,c,by simp,by rw[Heap.ca,if_pos rfl]⟩) (fun q hq=>by rw[Heap.ca,if_neg (fun e=>hq (by rw[e];rfl))];exact hs q hq)
   clear ih hs hQ
   refine dU _ _ _ _ _ fun g=>?_
   simp[ar,au,ae,af,ab, *,bX]
   all_goals exact hih
theorem xb(dep:Nat)(a_1:UInt8)(a_2:UInt32)(a_3:UInt8)(a_4:Int)(a_5:Int)(a_6:UInt8)(a_7:UInt32)(a_8:UInt8)(a_9:Int){x:AV}{l:List Int}{H:Heap}(hF:Fr H)(hM:yy x l H)(hl:l.length<100000) :
 ∃y H',limt env dep (.fn 33) [.agg [a8 a_1,a32 a_2,a8 a_3,aI a_4,aI a_5,a8 a_6,a32 a_7,a8 a_8,aI a_9,x]] H=some (y,H')∧Fr H' ∧∀q b,x.at?≠some q→H.get q=some b→H'.get q=some b:=by
 refine xZ (Q:=fun y H'=>Fr H' ∧∀q b,x.at?≠some q→H.get q=some b→H'.get q=some b) (fn:=Try.f33) (c:=c8) (by kernel_rfl) (by kernel_rfl) (by kernel_rfl) (by kernel_rfl) (by kernel_rfl) ?_
 refine iE _ _ _ _ fun g=>?_
 have hx:x.cells=[x]∧x.one=true:=by rcases hM with ⟨rfl,_⟩ | ⟨r,c,rfl,_⟩<;>exact⟨rfl,rfl⟩
 have n1 : ∀q,x.at?=some q→(H.get q).isSome=true:=by
  intro q e
  rcases hM with ⟨rfl,_⟩ | ⟨r,c,rfl,hr⟩
  ·cases e
  ·cases e;rw[hr];rfl
 have hloop:=fun(H1:Heap)(hF1:Fr H1)(hb:H1.get ⟨dep+1,1,H.gen (dep+1) 1,0⟩=some ⟨10,[.agg [a8 a_1,a32 a_2,a8 a_3,aI a_4,aI a_5,a8 a_6,a32 a_7,a8 a_8,aI a_9,x]],false,false⟩) (hM1 : ∀q b,H.get q=some b→H1.get q=some b) (hM2:yy x l H1)=>tw dep a_1 a_2 a_3 a_4 a_5 a_6 a_7 a_8 a_9 (r1:=⟨dep+1,1,H.gen (dep+1) 1,0⟩) (x:=x) (fun e=>by have:=n1 _ e;rw[hF _ _ _ _ (Nat.le_refl _)]at this;cases this) (H0:=H1) (Q:=fun y H'=>Fr H' ∧∀q b,x.at?≠some q→H.get q=some b→H'.get q=some b)
  (fun y H' hF' hs=>⟨hF',fun q b hq hb'=>by rw[hs q hq];exact hM1 q b hb'⟩) l.length 0 0 l H1 (by omega) hl rfl hF1 hb hM2 (fun q _=>rfl)
 have hfin:=hloop ((⟨dep+1,1,H.gen (dep+1) 1,0⟩,some ⟨10,[.agg [a8 a_1,a32 a_2,a8 a_3,aI a_4,aI a_5,a8 a_6,a32 a_7,a8 a_8,aI a_9,x]],false,false⟩) :: H) (by simp(maxDischargeDepth:=12) [Heap.ca,Au,yz,Fr.nil,y9,ar,au,ae,af,zV,ye,ab, *]) (by simp) (fun q b hq=>by rw[Heap.kO,if_neg (mq hF (by rw[hq];rfl) _ _ _)];exact hq)
  (by
   rcases hM with h | ⟨r,c,h1,h2⟩
   ·exact .inl h
   ·exact .inr ⟨r,c,h1,by rw[Heap.kO,if_neg (mq hF (by rw[h2];rfl) _ _ _)];exact h2⟩)
 clear hloop hM n1
 simp[ar,au,ae,af,ab, *,eP]
 all_goals exact hfin
theorem az(a_1:UInt8)(a_2:UInt32)(a_3:UInt8)(a_4:Int)(a_5:Int)(a_6:UInt8)(a_7:UInt32)(a_8:UInt8)(a_9:Int){x:AV}(l:List Int){H:Heap}{r:Ref}{K:AV→Heap→Prop}{m:Mk K}(hF:Fr H)(hM:yy x l H)(hl:l.length<100000)(h : ∀v H',Fr H'→(∀q b,x.at?≠some q→H.get q=some b→H'.get q=some b)→K v H') :
 doW (cY env true (limf env) (limt env 0) H r (some (.fn (.func 33) [] [])) [.agg [a8 a_1,a32 a_2,a8 a_3,aI a_4,aI a_5,a8 a_6,a32 a_7,a8 a_8,aI a_9,x]]) K m:=by
 obtain⟨y,H',h1,h2,h3⟩:=xb 0 a_1 a_2 a_3 a_4 a_5 a_6 a_7 a_8 a_9 hF hM hl
 refine Cb (v:=y) (H:=H') ?_ (h y H' h2 h3)
 rw[wF (by kernel_rfl)]
 exact h1
end Go.Proofs.Ytjampffmlnplcaa
