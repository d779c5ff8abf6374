/-
  Chains: what the functions compute. No statement of a seat is proved here.
-/
import Derived.Test.YtmjkpdknicjjgaaMLgVl7
import Derived.Test.YtmjkpdknicjjgaaOpRead
set_option linter.unusedVariables false
set_option linter.unusedSimpArgs false
namespace Go.Ab
def lpO (o:Option Blk):Option (Nat × AV):=match o with
 | some ⟨0,[.v (.int .i64 st),inf],_,_⟩=>some (st.toNat,inf)
 | _=>none
theorem mz (H:Heap) (r:Ref):lpAt H r=lpO (H.get r):=rfl
@[simp] theorem sI (st:Nat) (inf:AV):lpO (some (dY st inf))=some (st,inf):=by
 simp [lpO,dY]
theorem K7 (inf:AV) (K:AV→Prop) (m:Mk K):bgP (some (0,inf)) K m↔K inf:=by
 constructor
 ·rintro ⟨info,e,h⟩
  simp only [Option.some.injEq,Prod.mk.injEq,true_and] at e
  subst e;exact h
 ·intro h;exact ⟨inf,rfl,h⟩
attribute [simp] K7
theorem Ky (H:Heap) (r:Ref) (st:Nat) (inf:AV):lpAt (H.put r (some (dY st inf))) r=some (st,inf):=by
 rw [mz,Heap.aj,if_pos rfl,sI]
theorem BK {E:Env} {fn:Func} {dep nt:Nat} {r:Ref} {f:FuncId} {ps:List Tmp} {assign body:Code} {tm:List AV} {args:List AV} {H:Heap} {Q:AV→Heap→Prop}
 (hl:H.get r=some (dY 0 (.lp f nt ps assign body tm))) (hn:fn.ntmps=nt) (hp:args.length=ps.length) (hps:ps.all (· < nt)=true) (ha:codeOk E.ok assign=true) (hb:codeOk E.ok body=true)
 (h:Goes E fn (some r) (dep+1) [.code assign,.beginRound,.code body] (tget (pW tm ps args)) H fun x H'=>x = .v (.int .i64 0) ∧ ∃info,H'.get r=some (dY 1 info)∧Q (.v (.bool true)) (H'.put r (some (dY 0 info)))) :
 ∃y H',limt E dep (.yld r) args H=some (y,H')∧Q y H':=by
 refine KC (by rw [mz,hl];exact sI _ _) hn hp hps ha hb ?_
 intro tm' ht
 obtain ⟨y,H',⟨rfl,info,h1,hQ⟩,n,hn⟩:=h tm' ht
 exact ⟨_,H',⟨0,rfl,info,_,by rw [mz,h1];exact sI _ _,rfl,Ky _ _ _ _,fun _=>hQ,fun h=>absurd h (by decide),by decide⟩,n,hn⟩
theorem uZ {s:eP} {l:List (Nat × AV)} (h : ∀p∈l,s p.1=p.2):ofL s l=s:=by
 induction l with
 | nil=>rfl
 | cons p l ih =>
  obtain ⟨j,v⟩:=p
  funext i
  show cond (Nat.beq i j) v (ofL s l i)=s i
  rw [ih fun p hp=>h p (List.mem_cons_of_mem _ hp)]
  cases hb:Nat.beq i j with
  | false=>rfl
  | true =>
   have:=Nat.eq_of_beq_eq_true hb
   subst this
   exact (h _ (List.mem_cons_self ..)).symm
@[simp] theorem Mc (r:Ref) (o n:Nat) (c:Option Nat) (y:AV):eD [AV.osl r o n c] 0 0 [y]=some [y]:=id rfl
@[simp] theorem Pw (x:Value) (y:AV):eD [AV.v x] 0 0 [y]=some [y]:=id rfl
theorem rI {E:Env} (dep:Nat) (H:Heap) (r q:Ref) (args:List AV):an E true (limf E) (limt E dep) H r (some (.yld q)) args=limt E dep (.yld q) args H:=by
 simp [an,jz,nRes,orW,ld]
end Go.Ab
set_option linter.unusedVariables false
set_option linter.unusedSimpArgs false
set_option linter.unusedSectionVars false
set_option linter.unnecessarySimpa false
set_option maxRecDepth 100000
namespace Go.Proofs.Ytmjkpdknicjjgaa
open Go.Ab
attribute [local simp] bU bB bD bC keep thr cg bA bE ek ej bW cf aO cW List.take_of_length_le
def idG (bs:List UInt8):Idd:=if idB (kq bs) then kq bs else oF
def wj (bs:List UInt8) (zero:Bool):Bool := !idB (kq bs) && !(zero&&decide (bs=List.replicate 13 0))
structure Ti (H H':Heap) (r:Ref) (x:AV) (bs:List UInt8) (a:Nat) (b:Bool) (y:AV):Prop where
 val:y = .agg [a8 (idG bs).h.lv,a32 (idG bs).h.cats,a8 (idG bs).h.num,aI (idG bs).n]
 fr:Fr H'
 box:H'.get r=some (so x a b)
 old : ∀q c,q≠r→H.get q=some c→H'.get q=some c
theorem vF (dep:Nat) {H:Heap} {r:Ref} {x:AV} {l:List UInt8} {a:Nat} {b:Bool} (n:Nat) {i:Int} {K:AV→Heap→Prop} {m:Mk K} (hi:i=n) (hx:Sl 1 (by8 l) x) (ha:a≤l.length) (hl:l.length<1000000000) (hn:n<1000000)
 (hF:Fr H) (hb:H.get r=some (so x a b)) (h : ∀y v H',Tk H H' r x l (tkL l a b n) (tkA l a b n) (tkB l a b n) y v→K y H'):doW (limt env dep (.fn 95) [.ptr r 0 0,aI i] H) K m:=by
 subst hi
 obtain ⟨y,H',hy,v,hk⟩:=Mv dep n hF hx hb ha hl hn
 exact EH hy (h y v H' hk)
theorem Um (dep:Nat) {H:Heap} {r:Ref} {x:AV} {l:List UInt8} {a:Nat} {b:Bool} (zero:Bool) (hF:Fr H) (hx:Sl 1 (by8 l) x) (hb:H.get r=some (so x a b)) (ha:a≤l.length) (hl:l.length<1000000000) :
 ∃y H',limt env dep (.fn 96) [.ptr r 0 0,aB zero] H=some (y,H')∧Ti H H' r x (tkL l a b 13) (tkA l a b 13) (tkB l a b 13||wj (tkL l a b 13) zero) y:=by
 refine qK (fn:=Try.f96) (c:=eK) (by kernel_rfl) (by kernel_rfl) (by kernel_rfl) (by kernel_rfl) (by kernel_rfl) ?_
 refine lA _ _ _ _ _ fun g=>?_
 have l1:(H.get r).isSome=true:=by rw [hb];rfl
 have hT:=wI (f:=95) (by kernel_rfl)
 simp [af,ah,ad,ae,aa, *,cJ,hT, -bB]
 refine vF (dep+1) 13 rfl hx ha hl (by omega) (by simp (maxDischargeDepth:=12) [Heap.aj,az,ar,Fr.nil,aN,af,ah,ad,ae,aA,aq,aa, *]) (by rw [Heap.fR,if_neg (lF hF l1 _ _ _)];exact hb) fun y v H1 hk=>?_
 obtain ⟨hs,fr,hbox,old,spot⟩:=hk
 have hlen:=ru (l:=l) (a:=a) b 13
 have hG:=Q1 hs.sl hlen
 have hE:limf env 69 [v,.isl 1 [a8 0,a8 0,a8 0,a8 0,a8 0,a8 0,a8 0,a8 0,a8 0,a8 0,a8 0,a8 0,a8 0] none]=some (aB (decide (tkL l a b 13=List.replicate 13 0))):=zF hs.sl (Sl.mk 1 (by8 (List.replicate 13 0)))
 have h1:=old ⟨dep+1,4,H.gen (dep+1) 4,0⟩ ⟨4,[.agg [a8 0,a32 0,a8 0,aI 0]],false,false⟩ (lF hF l1 _ _ _) (by simp)
 have n1:(⟨dep+1,4,H.gen (dep+1) 4,0⟩:Ref)≠r:=lF hF l1 _ _ _
 have n2:=n1.symm
 have l2:(H1.get r).isSome=true:=by rw [hbox];rfl
 have l3:(H1.get ⟨dep+1,4,H.gen (dep+1) 4,0⟩).isSome=true:=by rw [h1];rfl
 unfold so at hbox
 have hfin : ∀(Hx:Heap) (y:AV) (z:Bool),y = .agg [a8 (idG (tkL l a b 13)).h.lv,a32 (idG (tkL l a b 13)).h.cats,a8 (idG (tkL l a b 13)).h.num,aI (idG (tkL l a b 13)).n]→Fr Hx→Hx.get r=some ⟨3,[.agg [x,aI (tkA l a b 13),aB z]],false,false⟩ →
  (∀q c,q≠r→q≠⟨dep+1,4,H.gen (dep+1) 4,0⟩→H1.get q=some c→Hx.get q=some c)→Ti H Hx r x (tkL l a b 13) (tkA l a b 13) z y:=by
  intro Hx y z hy hFx hbx ho
  refine ⟨hy,hFx,hbx,fun q c hq hc=>?_⟩
  have nq:q≠⟨dep+1,4,H.gen (dep+1) 4,0⟩:=fun e=>lF hF (by rw [hc];rfl) _ _ _ e.symm
  exact ho q c hq nq (old q c hq (by rw [Heap.fR,if_neg (fun e=>nq e.symm)];exact hc))
 have e1:idG (tkL l a b 13)=if idB (kq (tkL l a b 13)) then kq (tkL l a b 13) else oF:=rfl
 have e2:wj (tkL l a b 13) zero=(!idB (kq (tkL l a b 13)) && !(zero&&decide (tkL l a b 13=List.replicate 13 0))):=rfl
 generalize tkL l a b 13=bs at *
 generalize tkA l a b 13=a' at *
 generalize tkB l a b 13=b' at *
 clear ha old
 generalize decide (bs=List.replicate 13 0)=dz at *
 generalize hi:kq bs=i at *
 obtain ⟨⟨k1,k2,k3⟩,k4⟩:=i
 rcases hs with ⟨rfl,hs⟩ | ⟨q,c,fz,rfl,hq,rfl,hc⟩
 ·have hr:=hs.r
  cases hI:idB ⟨⟨k1,k2,k3⟩,k4⟩<;>cases zero<;>cases b'
  all_goals simp [af,ah,ad,ae,aa, *,cJ,oF]
  all_goals
   refine hfin _ _ _ ?_ (by simp (maxDischargeDepth:=12) [Heap.aj,az,ar,Fr.nil,aN,af,ah,ad,ae,aA,aq,aa, *]) ?_ ?_
   ·simp [e1,hI,oF]
   ·simp [Heap.aj,af,ah, *]
   ·intro q c hq hq1 hc
    have l5:(H1.get q).isSome=true:=by rw [hc];rfl
    have hq':=hq.symm
    have hq1':=hq1.symm
    simp [Heap.aj,af,ah, *]
 ·have l4:(H1.get q).isSome=true:=by rw [hq];rfl
  cases hI:idB ⟨⟨k1,k2,k3⟩,k4⟩<;>cases zero<;>cases b'
  all_goals simp [af,ah,ad,ae,aa, *,cJ,oF]
  all_goals
   refine hfin _ _ _ ?_ (by simp (maxDischargeDepth:=12) [Heap.aj,az,ar,Fr.nil,aN,af,ah,ad,ae,aA,aq,aa, *]) ?_ ?_
   ·simp [e1,hI,oF]
   ·simp [Heap.aj,af,ah, *]
   ·intro q c hq hq1 hc
    have l5:(H1.get q).isSome=true:=by rw [hc];rfl
    have hq':=hq.symm
    have hq1':=hq1.symm
    simp [Heap.aj,af,ah, *]
end Go.Proofs.Ytmjkpdknicjjgaa
