/-
  AuditAlone: other runes. No statement of a seat is proved here.
-/
import Derived.Test.YtdbiffjdomokfaaGreatMAuAll2
import Derived.Test.YtdbiffjdomokfaaGreatAuVl6
set_option linter.unusedVariables false
set_option linter.unusedSimpArgs false
set_option linter.unusedSectionVars false
set_option linter.unnecessarySimpa false
set_option maxRecDepth 100000
namespace Go.Proofs.YtdbiffjdomokfaaGreat
open Go.Ab
attribute [local simp] bD bp bl bC bB cV lj bP bt bA dc db cg bR aV cm List.take_of_length_le
def LQ(other:List Int)(n:Nat):AV:=if n=0 then cP else .cw 1 (rows (other.take n)) none
def wD(other:List Int)(p:gA × AV):gA × AV:=({ p.1 with op := { p.1.op with l:=other.take p.1.op.l.length}},LQ other p.1.op.l.length)
theorem Av{E:List AV}{k:Nat}{p:gA × AV}(hE:E[k]?=some (p.1.val p.2)){z:AV}(hz:z.one=true):fb E k 18 [z]=some (E.set k (p.1.val z)):=by
 unfold fb
 rw[hE]
 obtain⟨⟨k1,u,⟨a1,⟨a2,a3,a4⟩,a5,⟨⟨⟨a6,a7,a8'⟩,a9⟩,a10⟩,⟨⟨a11,a12,a13⟩,a14⟩,⟨a15,a16⟩,al⟩,c,g1,v,w,o⟩,x⟩:=p
 rfl
theorem WX:aU env.P 48=some 1:=by kernel_rfl
theorem K8{H:ab}{r:Ref}{E:List AV}{k:Nat}{p:gA × AV}(hr:H.get r=some ⟨24,E,true,false⟩)(hE:E[k]?=some (p.1.val p.2)) :
 aT env.P H 48 (some (.ptr r k 18)) (some cP)=some (AV.undef,H.put r (some ⟨24,E.set k (p.1.val cP),true,false⟩)):=by
 have hw:=Av hE (z:=cP) rfl
 have e:aT env.P H 48 (some (.ptr r k 18)) (some cP)=(match H.get r with
  | some b=>if True∧True∧b.jb=false then (if b.arr=true then (fb b.es k 18 [cP]).map fun es=>(AV.undef,H.put r (some { b with es})) else (fb b.es k 18 [cP]).map fun es=>(AV.undef,H.put r (some { b with es}))) else none
  | none=>none):=by
  simp only[aT,WX]
  cases H.get r with
  | none=>rfl
  | some b=>simp
 rw[e,hr]
 simp[hw]
theorem Ek{H:ab}{r q:Ref}{E nx:List AV}{k n:Nat}{p:gA × AV}(hr:H.get r=some ⟨24,E,true,false⟩)(hE:E[k]?=some (p.1.val p.2))(hq:H.get q=some ⟨1,nx,true,false⟩)(hne:(r=q)=False)(hn:n=nx.length) :
 aT env.P H 48 (some (.ptr r k 18)) (some (.cM q 0 n none))=some (AV.undef,(H.put q (some ⟨1,nx,true,true⟩)).put r (some ⟨24,E.set k (p.1.val (.cw 1 nx none)),true,false⟩)):=by
 have hw:=Av hE (z := .cw 1 nx none) rfl
 subst hn
 simp only[aT,WX,hr]
 simp[hq,hne,hw,cq]
section
variable{x1 x3 x12:AV}{l:List (gA × AV)}{other:List Int}(hx:Sl 24 (bU l) x1)(hl : ∀p∈l,Sl 1 (rows p.1.op.l) p.2)(h3:Sl 1 (rows other) x3)(hlen:l.length≤1000)(hmax : ∀p∈l,p.1.op.l.length≤1000){q4 q6 r:Ref}(ht4:q4.t=4)(ht6:q6.t=6)(hrt:r.t=96)
include hx hl h3 hlen hmax ht4 ht6 hrt
theorem J4{b4 b6:bN}{Q:AV→ab→Prop}(hT : ∀H,Q (aB true) H) : ∀(s:List (gA × AV)) (k:Nat) (H:ab),l.drop k=s→k≤l.length→Fr H→H.get q4=some b4→H.get q6=some b6 →
 H.get r=some ⟨24,bU ((l.take k).map (wD other)++s),true,false⟩ →
 (∀H',Fr H'→H'.get q4=some b4→H'.get q6=some b6→H'.get r=some ⟨24,bU (l.map (wD other)),true,false⟩ →
  bT env Tryz.f6 0 cG [(9,aB true),(21,aI l.length),(1,x1),(3,x3),(20,.cM r 0 l.length none),(12,x12),(6,.ptr q6 0 0),(4,.ptr q4 0 0)] H' Q) →
 bT env Tryz.f6 0 cG [(9,aB true),(21,aI k),(1,x1),(3,x3),(20,.cM r 0 l.length none),(12,x12),(6,.ptr q6 0 0),(4,.ptr q4 0 0)] H Q:=by
 intro s
 induction s with
 | nil =>
  rintro k H hs hk hF hq4 hq6 hr hQ
  obtain rfl:=drop_nil hs hk
  exact hQ H hF hq4 hq6 (by simpa using hr)
 | cons p s ih =>
  rintro k H hs hk hF hq4 hq6 hr hQ
  obtain⟨hlt,hg,hs',hg'⟩:=drop_cons hs
  have hlt':(k:Int)<l.length:=by omega
  have e1:=JE ((k:Int)+1) (by omega) (by omega)
  have hax:=hl p (hg ▸ List.getElem_mem hlt)
  have hpm:=hmax p (hg ▸ List.getElem_mem hlt)
  have hrdk:eL (bU l) k 18 1 false=some p.2:=by
   simp[eL,bU,hg',gA.val]
  have hRl:=kW l
  have hEl:(bU ((l.take k).map (wD other)++p :: s)).length=l.length:=by
   have:=congrArg List.length hs
   simp at this ⊢;omega
  have hEk:(bU ((l.take k).map (wD other)++p :: s))[k]?=some (p.1.val p.2):=by
   have hk':min k l.length=k:=by omega
   simp[bU,hk']
  have hEs:(bU ((l.take k).map (wD other)++p :: s)).set k (p.1.val (LQ other p.1.op.l.length))=bU ((l.take (k+1)).map (wD other)++s):=by
   have hk':min k l.length=k:=by omega
   rw[List.take_add_one,hg']
   have e:p.1.val (LQ other p.1.op.l.length)=(wD other p).1.val (wD other p).2:=rfl
   simp only[bU,List.map_append,List.map_cons,Option.toList_some,List.map_nil,List.append_assoc,List.cons_append,List.nil_append]
   rw[List.set_append]
   simp[hk',e]
  have hnx:=fun H' h1 h2 h3 h4=>ih (k+1) H' hs' (by omega) h1 h2 h3 h4
  rw[←hEs,show((k+1:Nat):Int)=(k:Int)+1 from by omega]at hnx
  generalize bU ((l.take k).map (wD other)++p :: s)=E at *
  generalize bU l=er at *
  clear ih hs hs' hg hg' hmax hEs
  refine fp _ _ _ _ _ _ _ _ _ _ fun g=>?_
  simp[ah,ai,ae,af,ad, *,cI,hx.r,hx.idx,hRl,hlt,hrdk,hax.r,h3.r]
  refine kO (fun h=>?_) (fun h=>?_)
  ·exact hT _
  have hle : ¬other.length<p.1.op.l.length:=by simpa using h
  have hlr:(H.get r).isSome=true:=by rw[hr];rfl
  have hn4 : ¬q4=r:=fun e=>by rw[e]at ht4;omega
  have hn6 : ¬q6=r:=fun e=>by rw[e]at ht6;omega
  have n125:((⟨0,125,H.gen 0 125,0⟩:Ref)=r)=False:=ah hF hlr 0 125 0
  have r125:(r=(⟨0,125,H.gen 0 125,0⟩:Ref))=False:=eq_false fun e=>cast n125 e.symm
  have p125:((⟨0,125,H.gen 0 125,0⟩:Ref)=q4)=False:=ah hF (by rw[hq4];rfl) 0 125 0
  have s125:((⟨0,125,H.gen 0 125,0⟩:Ref)=q6)=False:=ah hF (by rw[hq6];rfl) 0 125 0
  have hnx:=fun H' h1 h2 h3 h4=>hnx H' h1 h2 h3 h4 (fun H' g1 g2 g3 g4=>hQ H' g1 g2 g3 g4)
  clear hQ
  obtain⟨y,hy1,hy2⟩:=BV (P:=env.P) (t:=48) (z:=1) (by kernel_rfl) H.get h3 (n:=(p.1.op.l.length:Int)) (by omega) (by simp;omega)
  rw[Int.toNat_natCast,show(rows other).take p.1.op.l.length=rows (other.take p.1.op.l.length) from by simp[rows]]at hy2
  have htl:(rows (other.take p.1.op.l.length)).length=p.1.op.l.length:=by simp;omega
  unfold LQ at hnx
  generalize rows (other.take p.1.op.l.length)=nx at *
  by_cases hz:nx=[]
  ·subst hz
   have hn0:p.1.op.l.length=0:=by simpa using htl.symm
   rw[if_pos hn0]at hnx
   clear htl
   simp[hx.r,hx.idx,hRl,hlt,hrdk,hax.r,h3.r,hy1,hy2.ld,hr,hEl,K8 hr hEk]
   rw[e1]
   refine hnx _ (aD hF hlr _) ?_ ?_ ?_
   ·rw[ab.get_put,if_neg hn4];exact hq4
   ·rw[ab.get_put,if_neg hn6];exact hq6
   ·rw[ab.get_put,if_pos rfl]
  ·have hn0 : ¬p.1.op.l.length=0:=fun e=>hz (List.eq_nil_of_length_eq_zero (by omega))
   rw[if_neg hn0]at hnx
   have hbn:nx.length * 4≤140737488355328:=by omega
   simp[hx.r,hx.idx,hRl,hlt,hrdk,hax.r,h3.r,hy1,hy2.ld,hz,hbn,hr,hEl,n125]
   refine pH (Ek (nx:=nx) (E:=E) (p:=p) (k:=k) (by simp[ab.get,n125,hr]) hEk (by simp[ab.get]) (eq_false fun e=>cast n125 e.symm) rfl) ?_
   simp[e1]
   simp only[n125,if_false]
   refine hnx _ (aq (aD hF hlr _) (by rw[ad hlr]) _) ?_ ?_ ?_
   ·simp[ab.get,p125,ab.get_put,hn4,hq4]
   ·simp[ab.get,s125,ab.get_put,hn6,hq6]
   ·simp[ab.get,n125,ab.get_put]
end
end Go.Proofs.YtdbiffjdomokfaaGreat
namespace Go.Proofs.YtdbiffjdomokfaaGreat
open Go.Ab
theorem tQ{a b:UInt32}:a &&& ~~~b=0 ↔ ∀i,a.toBitVec.getLsbD i=true→b.toBitVec.getLsbD i=true:=by
 rw[←UInt32.toBitVec_inj]
 constructor
 ·intro h i hi
  have:=congrArg (fun z=>BitVec.getLsbD z i) h
  simp only[UInt32.toBitVec_and,UInt32.toBitVec_not,BitVec.getLsbD_and,BitVec.getLsbD_not,UInt32.toBitVec_ofNat]at this
  have hlt:i<32:=by
   rcases Nat.lt_or_ge i 32 with h | h
   ·exact h
   ·rw[BitVec.getLsbD_of_ge _ _ h]at hi;cases hi
  simp[hi,hlt]at this
  exact this
 ·intro h
  apply BitVec.eq_of_getLsbD_eq
  intro i hi
  simp only[UInt32.toBitVec_and,UInt32.toBitVec_not,BitVec.getLsbD_and,BitVec.getLsbD_not]
  have:=h i
  cases hc:a.toBitVec.getLsbD i with
  | false=>simp
  | true=>simp[this hc]
theorem Cv{a b c:jz}(h1:nP a b=true)(h2:nP b c=true):nP a c=true:=by
 simp only[nP,Bool.and_eq_true,decide_eq_true_eq]at h1 h2 ⊢
 exact⟨UInt8.le_trans h1.1 h2.1,tQ.2 fun i hi=>tQ.1 h2.2 i (tQ.1 h1.2 i hi)⟩
def pk(v:jz)(o:bG):Bool:=nP (JZ o) v
theorem IQ(ents:List (eE × AV))(i j:eE):gC (fJ i (aB true) ents) j=(decide (j=i)||gC ents j):=by
 unfold gC
 by_cases e:j=i
 ·subst e;rw[oP];simp
 ·rw[m7 e];simp[e]
theorem tu : ∀(ns:List eE)(ents:List (eE × AV)) (j:eE),gC (tT ents ns) j=(decide (j∈ns)||gC ents j)
 | [],ents,j=>by simp
 | i :: ns,ents,j=>by
  rw[Iz,tu ns,IQ]
  by_cases e:j=i<;>simp[e]
theorem Kx{s:Ao}{i:eE}(h:i∈eD s):RF i=⟨s.f.h.lv,s.f.h.cats⟩:=by
 unfold eD at h
 obtain⟨k,_,rfl⟩:=List.mem_map.1 h
 rfl
theorem Kv{o:bG}(h:mT o=true)(k:o.kind=1):o.s.f.h=o.h:=by
 unfold mT Jp at h
 rw[if_pos k]at h
 simp only[Bool.and_eq_true,Jz]at h
 exact(Le _ _).1 h.2.2.2.2.2.2.1
theorem zT{v w:jz}(hw:nP w v=true)(i:eE) : ∀(l:List bG)(out:List jz),sJ out (l.filter (pk v)) i w=sJ out l i w
 | [],out=>rfl
 | o :: l,out=>by
  rw[List.filter_cons]
  by_cases e:pk v o=true
  ·rw[if_pos e]
   exact zT hw i l _
  ·rw[if_neg e,zT hw i l out]
   have hr:lB o i w=false:=by
    cases hr:lB o i w with
    | false=>rfl
    | true =>
     unfold lB at hr
     simp only[Bool.and_eq_true]at hr
     exact absurd (Cv hr.2.2 hw) e
   show sJ out l i w=sJ (if lB o i w then xM out o.to else out) l i w
   rw[hr];rfl
theorem EU{v:jz}{o:bG}(ho:pk v o=true)(l:List bG):mz (l.filter (pk v)) o=mz l o:=by
 unfold mz vc
 simp only[zT ho]
structure Ap (v:jz) (ops:List (bG × AV)) (ents:List (eE × AV)) (ops':List (bG × AV)) (ents':List (eE × AV)):Prop where
 opsE:opsOf ops'=(opsOf ops).filter (pk v)
 there : ∀i,nP (RF i) v=true→gC ents' i=gC ents i
 right:kq [] (opsOf ops)=true
 right':kq [] (opsOf ops')=true
 len:ents.length≤64 * ops.length
 len':ents'.length≤64 * ops'.length
theorem Ap.lens{v:jz}{ops:List (bG × AV)}{ents:List (eE × AV)}{ops':List (bG × AV)}{ents':List (eE × AV)}(h:Ap v ops ents ops' ents'):ops'.length≤ops.length:=by
 have e:=congrArg List.length h.opsE
 have h2:=List.length_filter_le (pk v) (opsOf ops)
 simp only[opsOf,List.length_map]at e h2
 omega
theorem Ep{v:jz}{ents ents':List (eE × AV)}(ht : ∀i,nP (RF i) v=true→gC ents' i=gC ents i){o:bG}(ho:pk v o=true)(i:eE):sE ents' o i=sE ents o i:=by
 unfold sE
 cases e:nP (RF i) (JZ o) with
 | false=>simp
 | true=>rw[ht i (Cv e ho)]
theorem AF{v:jz}{ents ents':List (eE × AV)}(ht : ∀i,nP (RF i) v=true→gC ents' i=gC ents i){o:bG}(ho:pk v o=true):pT ents' o=pT ents o:=by
 unfold pT
 simp only[Ep ht ho]
theorem any_congr{α:Type}{p q:α→Bool} : ∀ {l:List α},(∀x∈l,p x=q x)→l.any p=l.any q
 | [],_=>rfl
 | x :: l,h=>by
  rw[List.any_cons,List.any_cons,h x List.mem_cons_self,any_congr fun y hy=>h y (List.mem_cons_of_mem _ hy)]
theorem zi{l:List bG}(h:kq [] l=true)(hl:l.length≤2048):nZ l=0:=by
 unfold nZ
 rw[if_neg (by omega),if_pos h]
section
variable{v:jz}{ops:List (bG × AV)}{ents:List (eE × AV)}{ops':List (bG × AV)}{ents':List (eE × AV)}(h:Ap v ops ents ops' ents')(hn:ops.length≤100)
include h hn
theorem Ie{o:bG}(ho:pk v o=true)(hB:mT o=true):tH ops' ents' o=tH ops ents o:=by
 have hl:=h.lens
 have h1:=h.len
 have h2:=h.len'
 have hs:=ko (pf hB)
 have hk:uj ops' ents' o=uj ops ents o:=by
  unfold uj
  by_cases k1:o.kind=1
  ·rw[if_pos k1,if_pos k1]
   unfold fv
   have hany:(eD o.s).any (gC ents')=(eD o.s).any (gC ents):=any_congr fun i hi=>by
    refine h.there i ?_
    rw[Kx hi,Kv hB k1]
    exact ho
   rw[Ep h.there ho,hany,if_neg (show ¬8192<(ents'.length:Int)+o.s.many by omega),if_neg (show ¬8192<(ents.length:Int)+o.s.many by omega)]
  ·rw[if_neg k1,if_neg k1]
   by_cases k2:o.kind=2
   ·rw[if_pos k2,if_pos k2]
    unfold wi
    rw[AF h.there ho]
   ·rw[if_neg k2,if_neg k2]
    unfold xt
    have c1:nZ (opsOf ops)=0:=zi h.right (by simp[opsOf];omega)
    have c2:nZ (opsOf ops')=0:=zi h.right' (by simp[opsOf];omega)
    rw[AF h.there ho,c1,c2,h.opsE,EU ho]
 unfold tH
 rw[hk,if_neg (by omega),if_neg (by omega)]
theorem FN{o:bG}(hE:tH ops ents o=0)(hB:mT o=true):mz (opsOf ops) o=true:=by
 unfold tH at hE
 rw[if_neg (by omega)]at hE
 unfold uj at hE
 by_cases k3:o.kind=3
 ·rw[if_neg (by rw[k3];decide),if_neg (by rw[k3];decide)]at hE
  unfold xt at hE
  split at hE
  ·cases hE
  ·split at hE
   ·rename_i h2;exact h2.2
   ·cases hE
 ·unfold mz
  rw[if_neg k3]
end
theorem uZ{l:List bG}{o:bG}(h:kq [] l=true)(hB:mT o=true)(hf:mz l o=true):kq [] (l++[o])=true:=by
 rw[I7,h,Bool.true_and]
 show(mT o&&mz ([]++l) o&&true)=true
 rw[List.nil_append,hB,hf];rfl
theorem kr(l:List (bG × AV))(p:bG × AV):opsOf (l++[p])=opsOf l++[p.1]:=by simp[opsOf]
def y3(ents:List (eE × AV))(o:bG):List (eE × AV):=if o.kind=1 then tT ents (eD o.s) else ents
theorem Ac{ents:List (eE × AV)}{o:bG}(hB:mT o=true):(y3 ents o).length≤ents.length+64:=by
 have hs:=ko (pf hB)
 unfold y3
 split
 ·have:=xN (eD o.s) ents
  have hl:(eD o.s).length=o.s.many.toNat:=by simp[eD]
  omega
 ·omega
section
variable{v:jz}{ops:List (bG × AV)}{ents:List (eE × AV)}{ops':List (bG × AV)}{ents':List (eE × AV)}(h:Ap v ops ents ops' ents')(hn:ops.length≤100)
include h hn
theorem Ap.low{p p':bG × AV}(e:p'.1=p.1)(ho:pk v p.1=true)(hB:mT p.1=true)(hE:tH ops ents p.1=0):mT p'.1=true∧tH ops' ents' p'.1=0∧Ap v (ops++[p]) (y3 ents p.1) (ops'++[p']) (y3 ents' p'.1):=by
 rw[e]
 have hE':tH ops' ents' p.1=0:=by rw[Ie h hn ho hB];exact hE
 refine⟨hB,hE',?_,fun i hi=>?_,?_,?_,?_,?_⟩
 ·rw[kr,kr,h.opsE,List.filter_append,e]
  simp[ho]
 ·unfold y3
  split
  ·rw[tu,tu,h.there i hi]
  ·exact h.there i hi
 ·rw[kr];exact uZ h.right hB (FN h hn hE hB)
 ·rw[kr,e]
  refine uZ h.right' hB ?_
  rw[h.opsE,EU ho]
  exact FN h hn hE hB
 ·have:=Ac (ents:=ents) hB
  have:=h.len
  simp;omega
 ·have:=Ac (ents:=ents') hB
  have:=h.len'
  simp;omega
theorem Ap.high{p:bG × AV}(ho : ¬pk v p.1=true)(hB:mT p.1=true)(hE:tH ops ents p.1=0):Ap v (ops++[p]) (y3 ents p.1) ops' ents':=by
 refine⟨?_,fun i hi=>?_,?_,h.right',?_,h.len'⟩
 ·rw[kr,h.opsE,List.filter_append]
  simp[ho]
 ·rw[h.there i hi]
  unfold y3
  split
  ·rename_i k1
   rw[tu]
   have:decide (i∈eD p.1.s)=false:=by
    rw[decide_eq_false_iff_not]
    intro hm
    rw[Kx hm,Kv hB k1]at hi
    exact ho hi
   rw[this];rfl
  ·rfl
 ·rw[kr];exact uZ h.right hB (FN h hn hE hB)
 ·have:=Ac (ents:=ents) hB
  have:=h.len
  simp;omega
end
theorem Ap.nil(v:jz):Ap v [] [] [] []:=⟨rfl,fun _ _=>rfl,rfl,rfl,Nat.le_refl _,Nat.le_refl _⟩
theorem EY : ∀ {s ops:List (bG × AV)} {ents:List (eE × AV)} {O:List (bG × AV)} {E:List (eE × AV)},im ops ents s=some (O,E)→O=ops++s
 | [],ops,ents,O,E,h=>by
  simp only[im,Option.some.injEq,Prod.mk.injEq]at h
  rw[←h.1,List.append_nil]
 | p :: s,ops,ents,O,E,h=>by
  unfold im at h
  split at h
  ·rw[EY h];simp
  ·cases h
theorem CR{p:bG × AV} : ∀ {s ops:List (bG × AV)} {ents:List (eE × AV)},im ops ents (s++[p])=(im ops ents s).bind fun q=>if mT p.1=true∧tH q.1 q.2 p.1=0 then some (q.1++[p],y3 q.2 p.1) else none
 | [],ops,ents=>by
  show(if mT p.1=true∧tH ops ents p.1=0 then im (ops++[p]) (y3 ents p.1) [] else none)=_
  rfl
 | q :: s,ops,ents=>by
  simp only[List.cons_append,im]
  split
  ·exact CR
  ·rfl
theorem Ae{v:jz} : ∀ {s s' ops ops':List (bG × AV)} {ents ents':List (eE × AV)} {O:List (bG × AV)} {E:List (eE × AV)},Ap v ops ents ops' ents'→opsOf s'=(opsOf s).filter (pk v)→ops.length+s.length≤100→im ops ents s=some (O,E) →
 ∃O' E',im ops' ents' s'=some (O',E')∧Ap v O E O' E'
 | [],s',ops,ops',ents,ents',O,E,h,hs,hn,hd=>by
  have e:s'=[]:=by
   have:=congrArg List.length hs
   simpa [opsOf] using this
  subst e
  simp only[im,Option.some.injEq,Prod.mk.injEq]at hd
  obtain⟨rfl,rfl⟩:=hd
  exact⟨ops',ents',rfl,h⟩
 | p :: s,s',ops,ops',ents,ents',O,E,h,hs,hn,hd=>by
  unfold im at hd
  split at hd
  ·rename_i hc
   simp only[List.length_cons]at hn
   have hs0:opsOf s'=(if pk v p.1=true then p.1 :: (opsOf s).filter (pk v) else (opsOf s).filter (pk v)):=by
    rw[hs]
    show(p.1 :: opsOf s).filter (pk v)=_
    rw[List.filter_cons]
   by_cases ho:pk v p.1=true
   ·rw[if_pos ho]at hs0
    cases s' with
    | nil=>simp[opsOf]at hs0
    | cons p' s' =>
     have hs1:p'.1 :: opsOf s'=p.1 :: (opsOf s).filter (pk v):=hs0
     injection hs1 with e1 e2
     obtain⟨b1,b2,b3⟩:=h.low (by omega) e1 ho hc.1 hc.2
     obtain⟨O',E',g1,g2⟩:=Ae b3 e2 (by simp;omega) hd
     refine⟨O',E',?_,g2⟩
     unfold im
     rw[if_pos ⟨b1,b2⟩]
     exact g1
   ·rw[if_neg ho]at hs0
    exact Ae (h.high (by omega) ho hc.1 hc.2) hs0 (by simp;omega) hd
  ·cases hd
theorem Ic{v:jz}{s s':List (bG × AV)}{o:bG}(hs:opsOf s'=(opsOf s).filter (pk v))(hn:s.length≤100)(hv:(im [] [] s).isSome=true)(ho:pk v o=true):mA s' o=mA s o∧(im [] [] s').isSome=true:=by
 obtain⟨⟨O,E⟩,hd⟩:=Option.isSome_iff_exists.1 hv
 obtain⟨O',E',hd',h⟩:=Ae (Ap.nil v) hs (by simpa using hn) hd
 have hO:=EY hd
 refine⟨?_,by rw[hd'];rfl⟩
 unfold mA
 rw[hd,hd']
 dsimp only
 by_cases hB:mT o=true
 ·rw[if_pos hB,if_pos hB,Ie h (by rw[hO];simpa using hn) ho hB]
 ·rw[if_neg hB,if_neg hB]
theorem FU{s:List (bG × AV)}{p:bG × AV}(h:mA s p.1=0):(im [] [] (s++[p])).isSome=true:=by
 unfold mA at h
 rw[CR]
 cases hd:im [] [] s with
 | none=>rw[hd]at h;cases h
 | some q =>
  obtain⟨O,E⟩:=q
  rw[hd]at h
  dsimp only at h
  by_cases hB:mT p.1=true
  ·rw[if_pos hB]at h
   rw[Option.bind_some,if_pos ⟨hB,h⟩];rfl
  ·rw[if_neg hB]at h;cases h
end Go.Proofs.YtdbiffjdomokfaaGreat
