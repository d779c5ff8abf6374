/-
  The arguments of a law: from what is read before the call to data. No statement of a seat is proved here.
  The shapes of the arguments' data, type by type. No statement of a seat is proved here.
  '==' of structs and arrays of bools, numbers and strings: cell by cell. No statement of a seat is proved here.
  More rules for the conditions: slices, strings, calls that answer slices, small slices. No statement of a seat is proved here.
  Boxes, fields, structs in the conditions; branches as ifs; calls as rules. No statement of a seat is proved here.
  Rules that let a simplifier go through calls, boxes and own slices by itself. No statement of a seat is proved here.
  Rules for a simplifier, on: what a call hands out as the caller's own, and what is behind a call. No statement of a seat is proved here.
  Rules for a simplifier, on: appends to data, bytes. No statement of a seat is proved here.
  More rules for the simplifier. No statement of a seat is proved here.
  Numbers as bytes, the highest first. No statement of a seat is proved here.
-/
import Derived.Test.YtdbiffjdomokfaaGreatAbsCond
import Derived.ChangeKeysEq
import Derived.Laws.Strings
set_option linter.unusedVariables false
set_option linter.unusedSimpArgs false
namespace Go.Ab
open Go.ChangeShapes Go.WideShapes Go.RowKit
def GD(ag:Bool)(xs:List AV):AV:=match ag,xs with
 | false,[x]=>x
 | _,xs => .agg xs
def HJ(S:List AV→Prop):Nat→List AV→Prop
 | 0,xs=>xs=[]
 | k+1,xs =>∃a b,xs=a++b∧S a∧HJ S k b
def On(S:TypeId→List AV→Prop):List Field→List AV→Prop
 | [],xs=>xs=[]
 | f :: fs,xs =>∃a b,xs=a++b∧S f.type a∧On S fs b
def xk(P:Program):Nat→TypeId→List AV→Prop
 | 0,_,_=>False
 | n+1,t,xs=>match P.underlying t with
  | some .bool =>∃b,xs=[aB b]
  | some (.int k) =>∃i,(k.min≤i∧i≤k.max)∧xs=[.v (.int k i)]
  | some .string =>∃s:ByteArray,xs=[aS s]
  | some (.slice e)=>xs=[cW] ∨∃es:List (List AV),xs=[.cw (P.cellsOf e) (es.map (GD ((dA P e).getD false))) none] ∧∀x∈es,xk P n e x
  | some (.struct fs)=>On (xk P n) fs.toList xs
  | some (.array k e)=>HJ (xk P n e) k xs
  | _=>False
def layout(P:Program):List Field→Nat→Option Nat
 | [],o=>some o
 | f :: fs,o=>if f.offset=o then layout P fs (o+P.cellsOf f.type) else none
def plain(P:Program):Nat→TypeId→Bool
 | 0,_=>false
 | n+1,t=>match P.underlying t with
  | some .bool | some (.int _) | some .string=>P.cellsOf t == 1
  | some (.slice e)=>P.cellsOf t == 1&&plain P n e&&decide (0<P.cellsOf e)
  | some (.struct fs)=>fs.toList.all (fun f=>plain P n f.type)&&layout P fs.toList 0 == some (P.cellsOf t)
  | some (.array k e)=>plain P n e&&P.cellsOf t == k * P.cellsOf e
  | _=>false
theorem xk.facts{P:Program} : ∀(n:Nat)(t:TypeId)(xs:List AV),plain P n t=true→xk P n t xs→xs.length=P.cellsOf t ∧∀x∈xs,x.one=true:=by
 intro n
 induction n with
 | zero=>intro t xs h;simp[plain]at h
 | succ n ih =>
  intro t xs hp hs
  unfold plain at hp
  unfold xk at hs
  cases hu:P.underlying t with
  | none=>rw[hu]at hs;exact hs.elim
  | some d =>
   rw[hu]at hp hs
   cases d<;>dsimp only at hp hs<;>try (exact hs.elim)
   ·obtain⟨b,rfl⟩:=hs
    simp at hp;exact⟨by simp[hp],by simp[AV.one]⟩
   ·obtain⟨i,_,rfl⟩:=hs
    simp at hp;exact⟨by simp[hp],by simp[AV.one]⟩
   ·obtain⟨s,rfl⟩:=hs
    simp at hp;exact⟨by simp[hp],by simp[AV.one]⟩
   ·rename_i e
    simp only[Bool.and_eq_true,beq_iff_eq]at hp
    rw[hp.1.1]
    rcases hs with rfl | ⟨es,rfl,_⟩
    ·simp[AV.one]
    ·simp[AV.one]
   ·rename_i k e
    simp only[Bool.and_eq_true,beq_iff_eq]at hp
    rw[hp.2]
    have : ∀(k:Nat)(xs:List AV),HJ (xk P n e) k xs→xs.length=k * P.cellsOf e ∧∀x∈xs,x.one=true:=by
     intro k
     induction k with
     | zero=>intro xs h;simp only[HJ]at h;subst h;simp
     | succ k ihk =>
      intro xs h
      obtain⟨a,b,rfl,ha,hb⟩:=h
      obtain⟨h1,h2⟩:=ih e a hp.1 ha
      obtain⟨h3,h4⟩:=ihk b hb
      refine⟨by rw[List.length_append,h1,h3,Nat.succ_mul];omega,fun x hx=>?_⟩
      rcases List.mem_append.1 hx with h | h
      ·exact h2 x h
      ·exact h4 x h
    exact this k xs hs
   ·rename_i fs
    simp only[Bool.and_eq_true,beq_iff_eq,List.all_eq_true]at hp
    have : ∀(l:List Field)(o:Nat)(xs:List AV),(∀f∈l,plain P n f.type=true)→On (xk P n) l xs→(∀m,layout P l o=some m→o+xs.length=m) ∧∀x∈xs,x.one=true:=by
     intro l
     induction l with
     | nil=>intro o xs _ h;simp only[On]at h;subst h;exact⟨fun m hm=>by simp[layout]at hm;simp[hm],by simp⟩
     | cons f l ihl =>
      intro o xs hl h
      obtain⟨a,b,rfl,ha,hb⟩:=h
      obtain⟨h1,h2⟩:=ih f.type a (hl f (List.mem_cons_self ..)) ha
      obtain⟨h3,h4⟩:=ihl (o+P.cellsOf f.type) b (fun f hf=>hl f (List.mem_cons_of_mem _ hf)) hb
      refine⟨fun m hm=>?_,fun x hx=>?_⟩
      ·unfold layout at hm
       split at hm
       ·have:=h3 m hm;rw[List.length_append,h1];omega
       ·cases hm
      ·rcases List.mem_append.1 hx with h | h
       ·exact h2 x h
       ·exact h4 x h
    obtain⟨h1,h2⟩:=this fs.toList 0 xs hp.1 hs
    exact⟨by have:=h1 _ hp.2;omega,h2⟩
theorem IF{ag:Bool}{xs:List AV}(h1 : ∀x∈xs,x.one=true):(GD ag xs).cells=xs:=by
 unfold GD
 split
 ·rename_i x
  have:=h1 x (by simp)
  cases x<;>first | rfl | (simp[AV.one]at this)
 ·rfl
section
variable{H:Type}{enc:TypeId × Value→H}{P:Program}{w:World}{base:Nat}{spare:Nat→Bool}{held:Bool}
abbrev pZ(w:World):Mem:=fun b o=>w.cell? ⟨b,o,none⟩
theorem IC : ∀(n m:Nat)(t:TypeId)(cs:List Value)(d:DataW H)(ps:List MemPlace),plain P m t=true→DataW.trod enc P w base spare held n t cs=some (d,ps) →
 ∃xs:List AV,xk P m t xs∧jB (pZ w) dY xs cs:=by
 intro n
 induction n with
 | zero=>intro m t cs d ps _ h;simp[DataW.trod]at h
 | succ n ih =>
  intro m t cs d ps hp h
  cases m with
  | zero=>simp[plain]at hp
  | succ m =>
  have hp0:=hp
  unfold plain at hp
  unfold xk
  cases hu:P.underlying t with
  | none=>rw[hu]at hp;simp at hp
  | some dd =>
   rw[hu]at hp
   unfold DataW.trod at h
   rw[hu]at h
   have single : ∀ {x:AV} {c:Value},VR (pZ w) dY x c→jB (pZ w) dY [x] [c]:=fun h=>jB.cons h jB.nil
   cases dd<;>dsimp only at hp ⊢ <;> try (simp at hp;done)
   ·
    rcases cs with _ | ⟨c,_ | ⟨c',cs⟩⟩
    ·simp at h
    ·cases c<;>first | (simp at h;done) | skip
     rename_i b
     exact⟨[aB b],⟨b,rfl⟩,single (.v rfl)⟩
    ·simp at h
   ·
    rename_i k
    rcases cs with _ | ⟨c,_ | ⟨c',cs⟩⟩
    ·simp at h
    ·cases c<;>first | (simp at h;done) | skip
     rename_i k' i
     dsimp only at h
     split at h
     ·rename_i hk
      obtain⟨rfl,hw⟩:=hk
      exact⟨[.v (.int k' i)],⟨i,by simpa [Lit.wf] using hw,rfl⟩,single (.v rfl)⟩
     ·cases h
    ·simp at h
   ·
    rcases cs with _ | ⟨c,_ | ⟨c',cs⟩⟩
    ·simp at h
    ·cases c<;>first | (simp at h;done) | skip
     rename_i s
     exact⟨[aS s],⟨s,rfl⟩,single (.v rfl)⟩
    ·simp at h
   ·
    rename_i e
    simp only[Bool.and_eq_true,beq_iff_eq,decide_eq_true_eq]at hp
    rcases cs with _ | ⟨c,_ | ⟨c',cs⟩⟩
    ·simp at h
    ·cases c<;>first | (simp at h;done) | skip
     rename_i a len cap
     cases a with
     | none =>
      have hlc:len=0∧cap=0:=by
       cases len<;>cases cap<;>simp at h ⊢
      obtain⟨rfl,rfl⟩:=hlc
      exact⟨[cW],.inl rfl,single (.v rfl)⟩
     | some a =>
      dsimp only at h
      split at h
      ·rename_i hb
       simp only[Option.bind_eq_some_iff,Option.map_eq_some_iff]at h
       obtain⟨elems,hel,_⟩:=h
       have hlen:elems.length=len:=by simpa using gT hel
       have each : ∀i,i<len →∃(xs:List AV) (vs:List Value),xk P m e xs∧jB (pZ w) dY xs vs∧w.cells? base (a.add (i * P.cellsOf e)) (P.cellsOf e)=some vs:=by
        intro i hi
        obtain⟨y,hy,hf⟩:=gU hel i i (by simp[hi])
        simp only[Option.bind_eq_some_iff]at hf
        obtain⟨vs,hvs,hf⟩:=hf
        obtain⟨xs,h1,h2⟩:=ih m e vs y.1 y.2 hp.1.2 hf
        exact⟨xs,vs,h1,h2,hvs⟩
       have : ∀k,k≤len →∃es:List (List AV),es.length=k ∧∀i xs,es[i]?=some xs →∃vs:List Value,xk P m e xs∧jB (pZ w) dY xs vs∧w.cells? base (a.add (i * P.cellsOf e)) (P.cellsOf e)=some vs:=by
        intro k
        induction k with
        | zero=>intro _;exact⟨[],rfl,fun i xs h=>by simp at h⟩
        | succ k ihk =>
         intro hk
         obtain⟨es,h1,h2⟩:=ihk (by omega)
         obtain⟨xs,vs,h3⟩:=each k (by omega)
         refine⟨es++[xs],by simp[h1],fun i ys hy=>?_⟩
         rcases Nat.lt_or_ge i k with hi | hi
         ·rw[List.getElem?_append_left (by omega)]at hy
          exact h2 i ys hy
         ·have:i=k:=by
           have:=(List.getElem?_eq_some_iff.1 hy).1
           simp[h1]at this
           omega
          subst this
          rw[List.getElem?_append_right (by omega)]at hy
          simp[h1]at hy
          subst hy
          exact⟨vs,h3⟩
       obtain⟨es,hes,heach⟩:=this len (Nat.le_refl _)
       have hx1 : ∀xs∈es,(GD ((dA P e).getD false) xs).cells=xs∧xs.length=P.cellsOf e:=by
        intro xs hxs
        obtain⟨i,hi,rfl⟩:=List.getElem_of_mem hxs
        obtain⟨vs,h1,h2,h3⟩:=heach i es[i] (List.getElem?_eq_getElem hi)
        obtain⟨h4,h5⟩:=h1.facts m e _ hp.1.2
        exact⟨IF h5,h4⟩
       refine⟨[.cw (P.cellsOf e) (es.map (GD ((dA P e).getD false))) none],.inr ⟨es,rfl,fun xs hxs=>?_⟩,single ?_⟩
       ·obtain⟨i,hi,rfl⟩:=List.getElem_of_mem hxs
        obtain⟨vs,h1,_⟩:=heach i es[i] (List.getElem?_eq_getElem hi)
        exact h1
       ·have hlm:(es.map (GD ((dA P e).getD false))).length=len:=by simp[hes]
        have hcell : ∀i j,i<len→j<P.cellsOf e →∃xs vs,es[i]?=some xs∧jB (pZ w) dY xs vs∧(∀x∈xs,x.one=true)∧xs.length=P.cellsOf e∧pZ w a.block (a.off+(i * P.cellsOf e+j))=vs[j]?∧(a.spot=none):=by
         intro i j hi hj
         have hi':i<es.length:=by omega
         obtain⟨vs,h1,h2,h3⟩:=heach i es[i] (List.getElem?_eq_getElem hi')
         obtain⟨h4,h5⟩:=h1.facts m e _ hp.1.2
         obtain⟨hb',hvl,hc⟩:=World.cells?_some h3
         have hj':=hc j hj
         have hsp:a.spot=none:=by
          obtain⟨vs0,g1,g2,g3⟩:=heach 0 es[0] (List.getElem?_eq_getElem (by omega))
          obtain⟨_,hvl0,hc0⟩:=World.cells?_some g3
          have:=hc0 0 hp.2
          rw[Nat.zero_mul]at this
          have ha0:(a.add 0).add 0=a:=by simp[Addr.add]
          rw[ha0]at this
          unfold World.cell? at this
          cases hs:a.spot with
          | none=>rfl
          | some z =>
           exfalso
           have hl0:0<vs0.length:=by omega
           rw[List.getElem?_eq_getElem hl0]at this
           split at this
           ·rw[hs]at this;simp at this
           ·simp at this
         refine⟨es[i],vs,List.getElem?_eq_getElem hi',h2,h5,h4,?_,hsp⟩
         rw[←hj']
         unfold pZ
         congr 1
         rw[jn hsp,fT,fT,Nat.add_assoc]
        have:=VR.cw (M:=pZ w) (ι:=dY) (esz:=P.cellsOf e) (es:=es.map (GD ((dA P e).getD false))) (cap:=none) (a:=a) (c:=cap)
         (fun i j=>(pZ w a.block (a.off+(i * P.cellsOf e+j))).getD Go.undef) ?_ (by rw[hlm];exact hb.2.1) (fun k hk=>by cases hk) ?_ ?_ ?_
        ·rw[hlm]at this;exact this
        ·rcases Nat.eq_zero_or_pos len with h0 | h0
         ·right
          have:es=[]:=by apply List.eq_nil_of_length_eq_zero;omega
          simp[this]
         ·left
          obtain⟨_,_,_,_,_,_,_,hs⟩:=hcell 0 0 h0 hp.2
          exact hs
        ·intro i j hi hj
         rw[hlm]at hi
         obtain⟨xs,vs,h1,h2,h3,h4,h5,_⟩:=hcell i j hi hj
         have hjv:j<vs.length:=by rw[←h2.1,h4];exact hj
         have hjx:j<xs.length:=by rw[h4];exact hj
         rw[h5,List.getElem?_eq_getElem hjv]
         refine⟨rfl,?_⟩
         have:=h2.2 j xs[j] vs[j] (List.getElem?_eq_getElem hjx) (List.getElem?_eq_getElem hjv)
         exact this.one (h3 _ (List.getElem_mem ..))
        ·intro x hx
         obtain⟨xs,hxs,rfl⟩:=List.mem_map.1 hx
         rw[(hx1 xs hxs).1]
         exact(hx1 xs hxs).2
        ·intro i j x c hx hc
         rw[List.getElem?_map,Option.map_eq_some_iff]at hx
         obtain⟨xs,hxs,rfl⟩:=hx
         have hmem:xs∈es:=List.mem_of_getElem? hxs
         rw[(hx1 xs hmem).1]at hc
         have hi:i<len:=by have:=(List.getElem?_eq_some_iff.1 hxs).1;omega
         have hj:j<P.cellsOf e:=by have:=(List.getElem?_eq_some_iff.1 hc).1;rw[(hx1 xs hmem).2]at this;exact this
         obtain⟨xs',vs,h1,h2,h3,h4,h5,_⟩:=hcell i j hi hj
         rw[hxs]at h1
         cases h1
         have hjv:j<vs.length:=by rw[←h2.1,h4];exact hj
         show VR _ _ c ((pZ w a.block (a.off+(i * P.cellsOf e+j))).getD Go.undef)
         rw[h5,List.getElem?_eq_getElem hjv]
         exact h2.2 j c vs[j] hc (List.getElem?_eq_getElem hjv)
      ·cases h
    ·simp at h
   ·
    rename_i k e
    simp only[Bool.and_eq_true,beq_iff_eq]at hp
    have h:cs.length=P.cellsOf t ∧∃xs,((List.range k).mapM fun i=>DataW.trod enc P w base spare held n e ((cs.drop (i * P.cellsOf e)).take (P.cellsOf e)))=some xs:=by
     dsimp only at h
     split at h
     ·rename_i hl
      simp only[Option.map_eq_some_iff]at h
      obtain⟨xs,hxs,_⟩:=h
      exact⟨hl,xs,hxs⟩
     ·cases h
    obtain⟨hl,ys,hys⟩:=h
    rw[hp.2]at hl
    have : ∀(k' i0:Nat),i0+k'=k →∃xs,HJ (xk P m e) k' xs∧jB (pZ w) dY xs (cs.drop (i0 * P.cellsOf e)):=by
     intro k'
     induction k' with
     | zero =>
      intro i0 hi
      refine⟨[],rfl,?_⟩
      rw[List.drop_of_length_le (by rw[hl,←hi];simp)]
      exact jB.nil
     | succ k' ihk =>
      intro i0 hi
      obtain⟨b,hb1,hb2⟩:=ihk (i0+1) (by omega)
      obtain⟨y,_,hf⟩:=gU hys i0 i0 (by rw[List.getElem?_range (by omega)])
      obtain⟨a,ha1,ha2⟩:=ih m e _ y.1 y.2 hp.1 hf
      refine⟨a++b,⟨a,b,rfl,ha1,hb1⟩,?_⟩
      have:cs.drop (i0 * P.cellsOf e)=(cs.drop (i0 * P.cellsOf e)).take (P.cellsOf e)++cs.drop ((i0+1) * P.cellsOf e):=by
       rw[Nat.succ_mul,←List.drop_drop,List.take_append_drop]
      rw[this]
      exact ha2.append hb2
    obtain⟨xs,h1,h2⟩:=this k 0 (by omega)
    exact⟨xs,h1,by simpa using h2⟩
   ·
    rename_i fs
    simp only[Bool.and_eq_true,beq_iff_eq,List.all_eq_true]at hp
    have h:cs.length=P.cellsOf t ∧∃xs,(fs.toList.mapM fun f=>DataW.trod enc P w base spare held n f.type ((cs.drop f.offset).take (P.cellsOf f.type)))=some xs:=by
     dsimp only at h
     split at h
     ·rename_i hl
      simp only[Option.map_eq_some_iff]at h
      obtain⟨xs,hxs,_⟩:=h
      exact⟨hl,xs,hxs⟩
     ·cases h
    obtain⟨hl,ys,hys⟩:=h
    have : ∀(l:List Field)(o:Nat),(∀f∈l,plain P m f.type=true)→(∀f∈l,∃y,DataW.trod enc P w base spare held n f.type ((cs.drop f.offset).take (P.cellsOf f.type))=some y)→layout P l o=some cs.length →
     ∃xs,On (xk P m) l xs∧jB (pZ w) dY xs (cs.drop o):=by
     intro l
     induction l with
     | nil =>
      intro o _ _ hlay
      simp[layout]at hlay
      refine⟨[],rfl,?_⟩
      rw[List.drop_of_length_le (by omega)]
      exact jB.nil
     | cons f l ihl =>
      intro o hpl htr hlay
      unfold layout at hlay
      split at hlay
      ·rename_i ho
       obtain⟨b,hb1,hb2⟩:=ihl (o+P.cellsOf f.type) (fun f hf=>hpl f (List.mem_cons_of_mem _ hf)) (fun f hf=>htr f (List.mem_cons_of_mem _ hf)) hlay
       obtain⟨y,hf⟩:=htr f (List.mem_cons_self ..)
       obtain⟨a,ha1,ha2⟩:=ih m f.type _ y.1 y.2 (hpl f (List.mem_cons_self ..)) hf
       rw[ho]at ha2
       refine⟨a++b,⟨a,b,rfl,ha1,hb1⟩,?_⟩
       have:cs.drop o=(cs.drop o).take (P.cellsOf f.type)++cs.drop (o+P.cellsOf f.type):=by
        rw[←List.drop_drop,List.take_append_drop]
       rw[this]
       exact ha2.append hb2
      ·cases hlay
    obtain⟨xs,h1,h2⟩:=this fs.toList 0 hp.1 (fun f hf=>by
     obtain⟨i,hi,rfl⟩:=List.getElem_of_mem hf
     obtain⟨y,_,hy⟩:=gU hys i fs.toList[i] (List.getElem?_eq_getElem hi)
     exact⟨y,hy⟩) (by rw[hl];exact hp.2)
    exact⟨xs,h1,by simpa using h2⟩
def LJ(P:Program)(n:Nat)(t:TypeId)(x:AV):Prop :=
 match dA P t with
 | some true =>∃xs,x = .agg xs∧xk P n t xs
 | _=>xk P n t [x]
def Jl(P:Program)(n:Nat):List TypeId→List AV→Prop
 | [],[]=>True
 | t :: ts,x :: xs=>LJ P n t x∧Jl P n ts xs
 | _,_=>False
theorem IB{m:Nat}{t:TypeId}{v:Value}{d:DataW H}{ps:List MemPlace}(hp:plain P m t=true)(hok:Value.okWide P w .any base t v){base':Nat}(h:DataW.Trod enc P w base' spare held t v d ps) :
 ∃x:AV,LJ P m t x∧VR (pZ w) dY x v:=by
 obtain⟨n,hn⟩:=h
 obtain⟨xs,h1,h2⟩:=IC n m t v.cells.toList d ps hp hn
 unfold LJ
 by_cases hag:dA P t=some true
 ·rw[hag]
  have : ∃cs,v = .agg cs:=by
   unfold dA at hag
   unfold Value.okWide at hok
   cases hu:P.underlying t with
   | none=>rw[hu]at hag;simp at hag
   | some dd=>rw[hu]at hag hok;cases dd<;>simp at hag<;>(obtain⟨cs,rfl,_⟩:=hok;exact⟨cs,rfl⟩)
  obtain⟨cs,rfl⟩:=this
  exact⟨.agg xs,⟨xs,rfl,h1⟩,VR.nT.2 h2⟩
 ·have hv:v.cells = #[v] ∧∃x,xs=[x]:=by
   have hf:=h1.facts m t xs hp
   cases m with
   | zero=>simp[plain]at hp
   | succ m =>
   have hp':=hp
   unfold plain at hp'
   unfold dA at hag
   unfold Value.okWide at hok
   cases hu:P.underlying t with
   | none=>rw[hu]at hp';simp at hp'
   | some dd =>
    rw[hu]at hp' hag hok
    have fin:P.cellsOf t=1→Cell.okWide P w .any base t v→v.cells = #[v] ∧∃x,xs=[x]:=by
     intro hc hcell
     refine⟨?_,?_⟩
     ·cases v<;>try rfl
      exfalso
      unfold Cell.okWide at hcell
      rw[hu]at hcell
      cases dd<;>simp at hp' hag<;>(simp[Cell.ok,hu]at hcell)
     ·have:=hf.1
      rw[hc]at this
      match xs,this with
      | [x],_=>exact⟨x,rfl⟩
    cases dd<;>simp at hp' hag
    ·exact fin hp' hok
    ·exact fin hp' hok
    ·exact fin hp' hok
    ·exact fin hp'.1.1 hok
  obtain⟨hv,x,rfl⟩:=hv
  rw[hv]at h2
  refine⟨x,?_,h2.2 0 x v rfl rfl⟩
  have:(match dA P t with | some true =>∃xs,x = .agg xs∧xk P m t xs | _=>xk P m t [x])=xk P m t [x]:=by
   split
   ·rename_i hh;exact(hag hh).elim
   ·rfl
  rw[this]
  exact h1
theorem M7{m:Nat}{base':Nat} : ∀ {ts:List TypeId} {vs:List Value} {ds:List (DataW H)} {ps:List MemPlace},ts.all (plain P m)=true→(∀(j:Nat) t v,ts[j]?=some t→vs[j]?=some v→Value.okWide P w .any base t v) →
 DataW.TrodAll enc P w base' spare held ts vs ds ps →∃xs:List AV,Jl P m ts xs∧jB (pZ w) dY xs vs:=by
 intro ts
 induction ts with
 | nil =>
  intro vs ds ps _ _ h
  obtain⟨rfl,_,_⟩:=trodAll_nil h
  exact⟨[],trivial,jB.nil⟩
 | cons t ts ih =>
  intro vs ds ps hp hok h
  obtain⟨v,vs',d,ds',p,q,rfl,rfl,rfl,h1,h2⟩:=trodAll_cons h
  simp only[List.all_cons,Bool.and_eq_true]at hp
  obtain⟨x,hx1,hx2⟩:=IB hp.1 (hok 0 t v rfl rfl) h1
  obtain⟨xs,hs1,hs2⟩:=ih hp.2 (fun j t v h1 h2=>hok (j+1) t v h1 h2) h2
  exact⟨x :: xs,⟨hx1,hs1⟩,jB.cons hx2 hs2⟩
end
theorem FQ{H:Type}{enc:TypeId × Value→H}{P:Program}{w:World}{base:Nat}{spare:Nat→Bool}{held:Bool} : ∀ {ts:List TypeId} {vs:List Value} {ds:List (DataW H)} {ps:List MemPlace},
 DataW.TrodAll enc P w base spare held ts vs ds ps→ds.length=ts.length:=by
 intro ts
 induction ts with
 | nil=>intro vs ds ps h;obtain⟨_,rfl,_⟩:=trodAll_nil h;rfl
 | cons t ts ih =>
  intro vs ds ps h
  obtain⟨v,vs',d,ds',p,q,rfl,rfl,rfl,_,h2⟩:=trodAll_cons h
  simp[ih h2]
theorem zj{P:Program}{n:Nat}{t:TypeId}{ts:List TypeId}{xs:List AV}(h:Jl P n (t :: ts) xs) : ∃x xs',xs=x :: xs'∧LJ P n t x∧Jl P n ts xs':=by
 cases xs with
 | nil=>exact h.elim
 | cons x xs=>exact⟨x,xs,rfl,h.1,h.2⟩
theorem Mb{P:Program}{n:Nat}{xs:List AV}(h:Jl P n [] xs):xs=[]:=by
 cases xs with
 | nil=>rfl
 | cons x xs=>exact h.elim
theorem Db{E:Env}{ok:Array Oper→Bool}(hE:E.Ok ok){T:TypeId→Prop}(K:Kids E.P T)(hz : ∀t e,T t→E.P.underlying t=some (.slice e)→0<E.P.cellsOf e){H:Type}{enc:TypeId × Value→H}{id:FuncId}{f:Func}{s:ChangeSpec}{apart fresh handsOn again:Bool}{m:Nat}
 (hT : ∀t∈f.params.toList,T t) (hp:f.params.toList.all (plain E.P m)=true) (hv:s.vars=[]) (hs : ∀ds:List (DataW H),ds.length=f.params.toList.length→s.fn H ds = { results:=[.lit (.bool true)],args:=ds}) (hr:Fq E.P f=true)
 (h : ∀xs,Jl E.P m f.params.toList xs→bj E id xs=some (.v (.bool true)))
 (W:World) (base:Nat) (args:Array Value) (ds gs:List (DataW H)) (before:List MemPlace) (hval : ∀(j:Nat) t v,f.params[j]?=some t→args[j]?=some v→Value.okWide E.P W .any base t v)
 (hW:DataW.Whole enc E.P f.params.toList s.vars apart W args.toList ds gs before) :
 Calls E.P id args W fun e W' =>∃v,e = .returned v∧s.post enc E.P f apart fresh handsOn again W args v W':=by
 obtain⟨tb,hr,hb⟩:=Jg hr
 have hW0:=hW
 obtain⟨p,q,hA,hV,rfl,hfz,hnd⟩:=hW0
 obtain⟨xs,hx1,hx2⟩:=M7 hp (fun j t v h1 h2=>hval j t v (by simpa using h1) (by simpa using h2)) hA
 obtain⟨n,hrun⟩:=NA (h xs hx1)
 have hdl:ds.length=f.params.toList.length:=FQ hA
 refine(Jd hE hrun (us:=args.toList) hx2).mono fun e W' ⟨he,hk⟩=>⟨_,he,?_⟩
 exact KR K hz hT hv hW (hs ds hdl) hr hb hk
end Go.Ab
namespace Go.Ab
def HN{α:Type}(P:Program)(t:TypeId)(ok:α→Prop)(enc:α→List AV):Prop :=∀n xs,xk P n t xs →∃a,ok a∧xs=enc a
def isBool(P:Program)(t:TypeId):Bool:=match P.underlying t with | some .bool=>true | _=>false
def fQ(P:Program)(t:TypeId):Option (List TypeId):=match P.underlying t with | some (.struct fs)=>some (fs.toList.map (·.type)) | _=>none
theorem Gg{P:Program}{t:TypeId}(h:isBool P t=true):HN P t (fun _=>True) fun b:Bool=>[aB b]:=by
 intro n xs hx
 cases n with
 | zero=>exact hx.elim
 | succ n =>
  unfold isBool at h
  unfold xk at hx
  split at h
  ·rename_i hu;rw[hu]at hx;obtain⟨b,rfl⟩:=hx;exact⟨b,trivial,rfl⟩
  ·cases h
theorem AT{P:Program}{t:TypeId}{k:IntKind}(h:intKind P t=some k):HN P t (fun i:Int=>k.min≤i∧i≤k.max) fun i:Int=>[.v (.int k i)]:=by
 intro n xs hx
 cases n with
 | zero=>exact hx.elim
 | succ n =>
  unfold xk at hx
  rw[yA h]at hx
  obtain⟨i,hi,rfl⟩:=hx
  exact⟨i,hi,rfl⟩
theorem oN{P:Program}{t:TypeId}(h:intKind P t=some .i64):HN P t (fun i:Int => -9223372036854775808≤i∧i≤9223372036854775807) fun i:Int=>[aI i]:=fun n xs hx=>by
 obtain⟨i,hi,rfl⟩:=AT h n xs hx;exact⟨i,hi,rfl⟩
theorem PA{P:Program}{t:TypeId}(h:intKind P t=some .i32):HN P t (fun i:Int => -2147483648≤i∧i≤2147483647) fun i:Int=>[.v (.int .i32 i)]:=fun n xs hx=>by
 obtain⟨i,hi,rfl⟩:=AT h n xs hx;exact⟨i,hi,rfl⟩
theorem JA{P:Program}{t:TypeId}(h:intKind P t=some .u8):HN P t (fun _=>True) fun b:UInt8=>[a8 b]:=fun n xs hx=>by
 obtain⟨i,hi,rfl⟩:=AT h n xs hx
 refine⟨u8 i,trivial,?_⟩
 have h1:(0:Int)≤i:=hi.1
 have h2:i≤255:=hi.2
 unfold a8
 show[AV.v (.int .u8 i)]=[AV.v (.int .u8 ((u8 i).toNat:Int))]
 rw[DK,Int.emod_eq_of_lt h1 (by omega),Int.toNat_of_nonneg h1]
theorem Sd{P:Program}{t:TypeId}(h:intKind P t=some .u32):HN P t (fun _=>True) fun b:UInt32=>[aF b]:=fun n xs hx=>by
 obtain⟨i,hi,rfl⟩:=AT h n xs hx
 refine⟨u32 i,trivial,?_⟩
 have h1:(0:Int)≤i:=hi.1
 have h2:i≤4294967295:=hi.2
 unfold aF
 show[AV.v (.int .u32 i)]=[AV.v (.int .u32 ((u32 i).toNat:Int))]
 rw[Bj,Int.emod_eq_of_lt h1 (by omega),Int.toNat_of_nonneg h1]
theorem P2{α:Type}{ok:α→Prop}{enc:α→List AV} : ∀(es:List (List AV)),(∀x∈es,∃a,ok a∧x=enc a) →∃l:List α,(∀a∈l,ok a)∧es=l.map enc:=by
 intro es
 induction es with
 | nil=>intro _;exact⟨[],by simp,rfl⟩
 | cons x es ih =>
  intro h
  obtain⟨a,ha,rfl⟩:=h x (List.mem_cons_self ..)
  obtain⟨l,hl,rfl⟩:=ih fun x hx=>h x (List.mem_cons_of_mem _ hx)
  refine⟨a :: l,?_,rfl⟩
  intro b hb
  rcases List.mem_cons.1 hb with rfl | hb
  ·exact ha
  ·exact hl b hb
theorem Kj{P:Program}{t e:TypeId}(h:dW P t=some e):P.underlying t=some (.slice e):=by
 unfold dW at h
 split at h
 ·cases h;assumption
 ·cases h
theorem xI{α:Type}{P:Program}{t e:TypeId}{z:Nat}{ag:Bool}{ok:α→Prop}{enc:α→List AV}(he:dW P t=some e)(hz:aU P e=some z)(ha:dA P e=some ag)(hR:HN P e ok enc){n:Nat}{xs:List AV}(h:xk P n t xs) :
 ∃(l:List α) (x:AV),(∀a∈l,ok a)∧xs=[x]∧Sl z (l.map fun a=>GD ag (enc a)) x:=by
 cases n with
 | zero=>exact h.elim
 | succ n =>
  unfold xk at h
  rw[Kj he]at h
  rcases h with rfl | ⟨es,rfl,hall⟩
  ·exact⟨[],cW,by simp,rfl,.inl ⟨rfl,rfl⟩⟩
  ·obtain⟨l,hl,rfl⟩:=P2 es fun x hx=>hR n x (hall x hx)
   have hc:P.cellsOf e=z:=by
    unfold aU at hz
    unfold Program.cellsOf
    rw[hz];rfl
   refine⟨l,_,hl,rfl,?_⟩
   rw[hc,ha,List.map_map]
   exact Sl.mk z _
theorem LJ.cell{P:Program}{n:Nat}{t:TypeId}{x:AV}(ha:dA P t=some false)(h:LJ P n t x):xk P n t [x]:=by
 unfold LJ at h;rw[ha]at h;exact h
theorem LJ.agg{P:Program}{n:Nat}{t:TypeId}{x:AV}(ha:dA P t=some true)(h:LJ P n t x) : ∃xs,x = .agg xs∧xk P n t xs:=by
 unfold LJ at h;rw[ha]at h;exact h
def XN(S:TypeId→List AV→Prop):List TypeId→List AV→Prop
 | [],xs=>xs=[]
 | t :: ts,xs =>∃a b,xs=a++b∧S t a∧XN S ts b
theorem jF{P:Program}{t:TypeId}{ts:List TypeId}(ht:fQ P t=some ts){n:Nat}{xs:List AV}(h:xk P n t xs) : ∃m,XN (xk P m) ts xs:=by
 cases n with
 | zero=>exact h.elim
 | succ n =>
  unfold fQ at ht
  split at ht
  ·rename_i fs hu
   cases ht
   unfold xk at h
   rw[hu]at h
   refine⟨n,?_⟩
   dsimp only at h
   generalize fs.toList=l at h
   induction l generalizing xs with
   | nil=>exact h
   | cons f l ih =>
    obtain⟨a,b,rfl,ha,hb⟩:=h
    exact⟨a,b,rfl,ha,ih hb⟩
  ·cases ht
end Go.Ab
namespace Go.Ab
def sx(P:Program)(d e c:Nat)(xs ys:Array Value):List Nat→Option Bool
 | []=>some true
 | i :: is=>match bw P (part e xs (i * c)),bw P (part e ys (i * c)) with
  | some a,some b=>(match bw P (Op.equalIn d e a b) with
   | some true=>sx P d e c xs ys is
   | some false=>some false
   | none=>none)
  | _,_=>none
theorem JD{P:Program}{t:TypeId}{z:Nat}(h:aU P t=some z):bw P (sizeOf t)=some z:=by
 simp only[aU,Option.map_eq_some_iff]at h
 obtain⟨i,hi,rfl⟩:=h
 simp only[sizeOf,typeInfo,bN]
 show((some P).bind _).bind _=_
 simp only[Option.bind_some,hi]
 rfl
theorem zo{P:Program}(d:Nat){t e:TypeId}{n c:Nat}(xs ys:Array Value)(hu:P.underlying t=some (.array n e))(hi:aU P e=some c) :
 bw P (Op.equalIn (d+1) t (.agg xs) (.agg ys))=sx P d e c xs ys (List.range n):=by
 simp only[Op.equalIn,bN,jZ hu,Option.bind_some,JD hi]
 simp only[Std.Legacy.Range.forIn_eq_forIn_range',Std.Legacy.Range.size,Nat.sub_zero,Nat.add_one_sub_one,Nat.div_one,List.range_eq_range']
 generalize List.range' 0 n=is
 induction is with
 | nil=>rfl
 | cons j is ih =>
  simp only[List.forIn_cons,sx,bN]
  cases h1:bw P (part e xs (j * c)) with
  | none=>rfl
  | some a =>
   cases h2:bw P (part e ys (j * c)) with
   | none=>rfl
   | some b =>
    simp only[Option.bind_some]
    cases h3:bw P (Op.equalIn d e a b) with
    | none=>rfl
    | some r =>
     cases r
     ·rfl
     ·simp only[Option.bind_some,Bool.not_true,Bool.false_eq_true,if_false]
      exact ih
def pM(P:Program)(d:Nat)(xs ys:Array Value):List Field→Option Bool
 | []=>some true
 | f :: fs=>match bw P (part f.type xs f.offset),bw P (part f.type ys f.offset) with
  | some a,some b=>(match bw P (Op.equalIn d f.type a b) with
   | some true=>pM P d xs ys fs
   | some false=>some false
   | none=>none)
  | _,_=>none
theorem xU{P:Program}(d:Nat){t:TypeId}{fs:Array Field}(xs ys:Array Value)(hu:P.underlying t=some (.struct fs))(hs:P.stoodInHeld t=false)(hn : ∀f∈fs.toList,(f.name != "_")=true) :
 bw P (Op.equalIn (d+1) t (.agg xs) (.agg ys))=pM P d xs ys fs.toList:=by
 have hp:bw P program=some P:=rfl
 simp only[Op.equalIn,bN,jZ hu,Option.bind_some,hp,hs,Bool.false_eq_true,if_false]
 simp only[←Array.forIn_toList]
 generalize fs.toList=is at hn
 induction is with
 | nil=>rfl
 | cons f is ih =>
  have hf:f.name ≠ "_" := by simpa using hn f (List.mem_cons_self ..)
  simp only[List.forIn_cons,pM,bN,hf,ne_eq,not_false_eq_true,if_true]
  have hpu:bw P (pure PUnit.unit:Sem PUnit)=some PUnit.unit:=rfl
  cases h1:bw P (part f.type xs f.offset) with
  | none=>rfl
  | some a =>
   cases h2:bw P (part f.type ys f.offset) with
   | none=>rfl
   | some b =>
    simp only[Option.bind_some]
    cases h3:bw P (Op.equalIn d f.type a b) with
    | none=>rfl
    | some r =>
     cases r
     ·rfl
     ·simp only[Option.bind_some,Bool.not_true,Bool.false_eq_true,if_false]
      exact ih fun g hg=>hn g (List.mem_cons_of_mem _ hg)
def wZ:List AV→List AV→Option Bool
 | [.v (.bool a)],[.v (.bool b)]=>some (decide (a=b))
 | [.v (.int k a)],[.v (.int k' b)]=>if k=k' then some (decide (a=b)) else none
 | [.v (.string a)],[.v (.string b)]=>some (a == b)
 | _,_=>none
def gb(S:TypeId→List AV→List AV→Option Bool)(P:Program):List TypeId→List AV→List AV→Option Bool
 | [],_,_=>some true
 | t :: ts,xs,ys=>match aU P t with
  | none=>none
  | some z=>match S t (xs.take z) (ys.take z),gb S P ts (xs.drop z) (ys.drop z) with
   | some a,some b=>some (a&&b)
   | _,_=>none
def El(S:List AV→List AV→Option Bool)(z:Nat):Nat→List AV→List AV→Option Bool
 | 0,_,_=>some true
 | k+1,xs,ys=>match S (xs.take z) (ys.take z),El S z k (xs.drop z) (ys.drop z) with
  | some a,some b=>some (a&&b)
  | _,_=>none
def lU(P:Program)(t:TypeId):Option Nat:=match P.underlying t with
 | some .bool=>some 0
 | some (.int _)=>some 1
 | some .string=>some 2
 | _=>none
def Eb:AV→Nat
 | .v (.bool _)=>0
 | .v (.int _ _)=>1
 | .v (.string _)=>2
 | _=>3
def mf(P:Program):Nat→TypeId→List AV→List AV→Option Bool
 | 0,_,_,_=>none
 | n+1,t,xs,ys=>match lU P t with
  | some l=>(match xs,ys with
   | [x],[y]=>cond (Nat.beq (Eb x) l) (wZ [x] [y]) none
   | _,_=>none)
  | none=>match fQ P t with
   | some ts=>gb (mf P n) P ts xs ys
   | none=>match iv P t with
    | some (k,e)=>(match aU P e with
     | some z=>El (mf P n e) z k xs ys
     | none=>none)
    | none=>none
def AI(P:Program):Nat→TypeId→Bool
 | 0,_=>false
 | n+1,t=>match P.underlying t with
  | some .bool | some (.int _) | some .string=>dA P t == some false&&aU P t == some 1
  | some (.struct fs)=>fs.toList.all (fun f=>AI P n f.type&&f.name != "_")&&layout P fs.toList 0 == some (P.cellsOf t) && !P.stoodInHeld t
  | some (.array k e)=>AI P n e&&P.cellsOf t == k * P.cellsOf e
  | _=>false
def ny(xs:List AV):Option (List Value):=xs.mapM DJ
theorem vv{xs:List AV}{vs:List Value}(h:ny xs=some vs)(n:Nat):ny (xs.take n)=some (vs.take n):=by
 unfold ny at *
 induction xs generalizing vs n with
 | nil=>simp at h;subst h;simp
 | cons x xs ih =>
  simp only[List.mapM_cons,Option.pure_def,Option.bind_eq_bind,Option.bind_eq_some_iff]at h
  obtain⟨v,hv,vs',hvs,e⟩:=h
  cases e
  cases n with
  | zero=>simp
  | succ n=>simp only[List.take_succ_cons,List.mapM_cons,hv,ih hvs n];rfl
theorem vw{xs:List AV}{vs:List Value}(h:ny xs=some vs)(n:Nat):ny (xs.drop n)=some (vs.drop n):=by
 unfold ny at *
 induction xs generalizing vs n with
 | nil=>simp at h;subst h;simp
 | cons x xs ih =>
  simp only[List.mapM_cons,Option.pure_def,Option.bind_eq_bind,Option.bind_eq_some_iff]at h
  obtain⟨v,hv,vs',hvs,e⟩:=h
  cases e
  cases n with
  | zero=>simp only[List.drop_zero,List.mapM_cons,hv,hvs];rfl
  | succ n=>simp only[List.drop_succ_cons];exact ih hvs n
def qJ(P:Program)(t:TypeId)(vs:List Value):Option Value:=match dA P t with
 | some true=>some (.agg vs.toArray)
 | some false=>vs.head?
 | none=>none
theorem AU{P:Program}{t:TypeId}{z:Nat}(hz:aU P t=some z){vs:List Value}{o:Nat}{v:Value}(hv:qJ P t ((vs.drop o).take z)=some v)(h1:dA P t=some false→z=1):bw P (part t vs.toArray o)=some v:=by
 unfold qJ at hv
 have hag : ∀b,dA P t=some b→bw P (isAgg t)=some b:=by
  intro b hb
  simp only[dA,Option.map_eq_some_iff]at hb
  obtain⟨dd,hd,rfl⟩:=hb
  simp only[isAgg,bN,jZ hd,Option.bind_some]
  cases dd<;>rfl
 unfold part
 split at hv
 ·rename_i ha
  cases hv
  simp only[bN,hag _ ha,Option.bind_some,if_true,JD hz]
  show some _=some _
  congr 2
  apply Array.toList_inj.1
  simp only[Array.toList_extract,List.extract_eq_take_drop,Nat.add_sub_cancel_left]
 ·rename_i ha
  simp only[bN,hag _ ha,Option.bind_some,Bool.false_eq_true,if_false]
  have:vs.toArray[o]?=some v:=by
   rw[h1 ha]at hv
   rw[List.getElem?_toArray]
   cases hd:vs.drop o with
   | nil=>rw[hd]at hv;simp at hv
   | cons u us =>
    rw[hd]at hv
    simp at hv
    subst hv
    have:=congrArg List.head? hd
    simpa [List.head?_drop] using this
  rw[this]
  rfl
 ·cases hv
theorem NU{P:Program} : ∀(n:Nat)(D:Nat)(t:TypeId)(xs ys:List AV)(us vs:List Value)(b:Bool),AI P n t=true→mf P n t xs ys=some b→ny xs=some us→ny ys=some vs→xs.length=P.cellsOf t→ys.length=P.cellsOf t →
 ∃u v,qJ P t us=some u∧qJ P t vs=some v∧bw P (Op.equalIn (D+n) t u v)=some b:=by
 intro n
 induction n with
 | zero=>intro D t xs ys us vs b h;simp[AI]at h
 | succ n ih =>
  intro D t xs ys us vs b hok h hu hv hlx hly
  unfold AI at hok
  unfold mf at h
  cases hd:P.underlying t with
  | none=>rw[hd]at hok;simp at hok
  | some dd =>
   rw[hd]at hok
   have leaf : ∀l,lU P t=some l→(dA P t == some false&&aU P t == some 1)=true→(l=0∧dd = .bool∨(l=1 ∧∃k,dd = .int k)∨l=2∧dd = .string) →∃u v,qJ P t us=some u∧qJ P t vs=some v∧bw P (Op.equalIn (D+(n+1)) t u v)=some b:=by
    intro l hl hok hdd
    simp only[Bool.and_eq_true,beq_iff_eq]at hok
    rw[hl]at h
    dsimp only at h
    split at h
    ·rename_i x y
     cases hb:Nat.beq (Eb x) l with
     | false=>rw[hb]at h;cases h
     | true =>
      rw[hb]at h
      replace hb:=Nat.eq_of_beq_eq_true hb
      have e1 : ∃u,us=[u]∧DJ x=some u:=by
       unfold ny at hu;simp only[List.mapM_cons,List.mapM_nil,Option.pure_def,Option.bind_eq_bind,Option.bind_eq_some_iff]at hu
       obtain⟨u,h1,ws,h2,h3⟩:=hu
       cases h2;cases h3;exact⟨u,rfl,h1⟩
      have e2 : ∃u,vs=[u]∧DJ y=some u:=by
       unfold ny at hv;simp only[List.mapM_cons,List.mapM_nil,Option.pure_def,Option.bind_eq_bind,Option.bind_eq_some_iff]at hv
       obtain⟨u,h1,ws,h2,h3⟩:=hv
       cases h2;cases h3;exact⟨u,rfl,h1⟩
      obtain⟨u,rfl,hu1⟩:=e1
      obtain⟨v,rfl,hv1⟩:=e2
      refine⟨u,v,by simp[qJ,hok.1],by simp[qJ,hok.1],?_⟩
      rw[show D+(n+1)=(D+n)+1 from rfl]
      simp only[cond_true]at h
      unfold wZ at h
      simp only[Op.equalIn,bN,jZ hd,Option.bind_some]
      split at h
      ·rename_i a c ea ec
       simp only[List.cons.injEq,and_true]at ea ec
       subst ea;subst ec
       simp[DJ]at hu1 hv1
       subst hu1;subst hv1
       have hl0:l=0:=hb.symm
       rcases hdd with ⟨_,rfl⟩ | ⟨h1,_⟩ | ⟨h1,_⟩
       ·rw[←h];show some (a == c)=_;congr 1
       ·omega
       ·omega
      ·rename_i k a k' c ea ec
       simp only[List.cons.injEq,and_true]at ea ec
       subst ea;subst ec
       simp[DJ]at hu1 hv1
       subst hu1;subst hv1
       have hl0:l=1:=hb.symm
       rcases hdd with ⟨h1,_⟩ | ⟨_,k0,rfl⟩ | ⟨h1,_⟩
       ·omega
       ·split at h
        ·rename_i hk
         subst hk
         rw[←h]
         show bw P (if k=k then pure (a == c) else _)=_
         rw[if_pos rfl]
         show some (a == c)=_
         congr 1
        ·cases h
       ·omega
      ·rename_i a c ea ec
       simp only[List.cons.injEq,and_true]at ea ec
       subst ea;subst ec
       simp[DJ]at hu1 hv1
       subst hu1;subst hv1
       have hl0:l=2:=hb.symm
       rcases hdd with ⟨h1,_⟩ | ⟨h1,_⟩ | ⟨_,rfl⟩
       ·omega
       ·omega
       ·rw[←h];rfl
      ·cases h
    ·cases h
   have hlt : ∀l,lU P t=some l→_:=fun l hl=>leaf l hl
   cases dd<;>dsimp only at hok<;>try (simp at hok;done)
   ·exact leaf 0 (by simp[lU,hd]) hok (.inl ⟨rfl,rfl⟩)
   ·rename_i k;exact leaf 1 (by simp[lU,hd]) hok (.inr (.inl ⟨rfl,k,rfl⟩))
   ·exact leaf 2 (by simp[lU,hd]) hok (.inr (.inr ⟨rfl,rfl⟩))
   ·
    rename_i k e
    simp only[Bool.and_eq_true,beq_iff_eq]at hok
    obtain⟨hok,hcell⟩:=hok
    have hl:lU P t=none:=by simp[lU,hd]
    have hf:fQ P t=none:=by simp[fQ,hd]
    have hta:iv P t=some (k,e):=by simp[iv,hd]
    rw[hl,hf,hta]at h
    dsimp only at h
    have hag:dA P t=some true:=by simp[dA,hd]
    cases hz:aU P e with
    | none=>rw[hz]at h;cases h
    | some z =>
     rw[hz]at h
     dsimp only at h
     have hcz:P.cellsOf e=z:=by simp only[aU]at hz;simp[Program.cellsOf,hz]
     have hone:dA P e=some false→z=1:=by
      intro hagf
      cases n with
      | zero=>simp[AI]at hok
      | succ n' =>
       unfold AI at hok
       unfold dA at hagf
       cases huf:P.underlying e with
       | none=>rw[huf]at hok;simp at hok
       | some d2 =>
        rw[huf]at hok hagf
        cases d2<;>simp at hok hagf<;>(have:=hok.2;rw[hz]at this;simpa using this)
     refine⟨.agg us.toArray,.agg vs.toArray,by simp[qJ,hag],by simp[qJ,hag],?_⟩
     rw[show D+(n+1)=(D+n)+1 from rfl,zo (D+n) _ _ hd hz]
     have : ∀(m i0:Nat)(b:Bool),(i0+m) * z≤xs.length→(i0+m) * z≤ys.length→El (mf P n e) z m (xs.drop (i0 * z)) (ys.drop (i0 * z))=some b→sx P (D+n) e z us.toArray vs.toArray (List.range' i0 m)=some b:=by
      intro m
      induction m with
      | zero=>intro i0 b _ _ h;simp[El]at h;simp[sx,h]
      | succ m ihm =>
       intro i0 b hx hy h
       simp only[El]at h
       have hmul:(i0+(m+1)) * z=i0 * z+z+m * z:=by rw[Nat.add_mul,Nat.succ_mul];omega
       rw[hmul]at hx hy
       cases h1:mf P n e ((xs.drop (i0 * z)).take z) ((ys.drop (i0 * z)).take z) with
       | none=>rw[h1]at h;simp at h
       | some a =>
        rw[h1]at h
        cases h2:El (mf P n e) z m ((xs.drop (i0 * z)).drop z) ((ys.drop (i0 * z)).drop z) with
        | none=>rw[h2]at h;simp at h
        | some c =>
         rw[h2]at h
         simp only[Option.some.injEq]at h
         rw[List.drop_drop,List.drop_drop,←Nat.succ_mul]at h2
         obtain⟨u,v,hu1,hv1,heq⟩:=ih D e _ _ _ _ a hok h1 (vv (vw hu (i0 * z)) z) (vv (vw hv (i0 * z)) z)
          (by rw[List.length_take,List.length_drop,hcz];omega) (by rw[List.length_take,List.length_drop,hcz];omega)
         have p1:=AU hz (o:=i0 * z) hu1 hone
         have p2:=AU hz (o:=i0 * z) hv1 hone
         simp only[List.range'_succ,sx,p1,p2,heq]
         cases a with
         | false=>simp at h;simp[h]
         | true =>
          simp only[Bool.true_and]at h
          subst h
          exact ihm (i0+1) c (by rw[show i0+1+m=i0+(m+1) by omega,hmul];exact hx) (by rw[show i0+1+m=i0+(m+1) by omega,hmul];exact hy) h2
     rw[List.range_eq_range']
     by_cases hk0:k * z≤xs.length∧k * z≤ys.length
     ·exact this k 0 b (by simpa using hk0.1) (by simpa using hk0.2) (by simpa using h)
     ·exfalso
      rw[hcz]at hcell
      exact hk0 ⟨by omega,by omega⟩
   ·
    rename_i fs
    simp only[Bool.and_eq_true,Bool.not_eq_true',List.all_eq_true,beq_iff_eq]at hok
    obtain⟨⟨hall,hlay⟩,hst⟩:=hok
    have hl:lU P t=none:=by simp[lU,hd]
    have hf:fQ P t=some (fs.toList.map (·.type)):=by simp[fQ,hd]
    rw[hl,hf]at h
    dsimp only at h
    have hag:dA P t=some true:=by simp[dA,hd]
    refine⟨.agg us.toArray,.agg vs.toArray,by simp[qJ,hag],by simp[qJ,hag],?_⟩
    rw[show D+(n+1)=(D+n)+1 from rfl,xU (D+n) _ _ hd hst (fun f hf=>(hall f hf).2)]
    have : ∀(l:List Field)(o:Nat)(b:Bool),(∀f∈l,AI P n f.type=true)→layout P l o=some (P.cellsOf t)→gb (mf P n) P (l.map (·.type)) (xs.drop o) (ys.drop o)=some b→o≤P.cellsOf t →
     pM P (D+n) us.toArray vs.toArray l=some b:=by
     intro l
     induction l with
     | nil=>intro o b _ _ h _;simp[gb]at h;simp[pM,h]
     | cons f l ihl =>
      intro o b hal hlay h ho
      unfold layout at hlay
      split at hlay
      ·rename_i hfo
       simp only[List.map_cons,gb]at h
       cases hz:aU P f.type with
       | none=>rw[hz]at h;cases h
       | some z =>
        rw[hz]at h
        dsimp only at h
        have hcz:P.cellsOf f.type=z:=by simp only[aU]at hz;simp[Program.cellsOf,hz]
        rw[hcz]at hlay
        cases h1:mf P n f.type ((xs.drop o).take z) ((ys.drop o).take z) with
        | none=>rw[h1]at h;simp at h
        | some a =>
         rw[h1]at h
         cases h2:gb (mf P n) P (l.map (·.type)) ((xs.drop o).drop z) ((ys.drop o).drop z) with
         | none=>rw[h2]at h;simp at h
         | some c =>
          rw[h2]at h
          simp only[Option.some.injEq]at h
          rw[List.drop_drop,List.drop_drop]at h2
          have hle:o+z≤P.cellsOf t:=by
           have : ∀(l:List Field)(o m:Nat),layout P l o=some m→o≤m:=by
            intro l
            induction l with
            | nil=>intro o m h;simp[layout]at h;omega
            | cons g l ihg =>
             intro o m h
             unfold layout at h
             split at h
             ·have:=ihg _ _ h;omega
             ·cases h
           exact this _ _ _ hlay
          obtain⟨u,v,hu1,hv1,heq⟩:=ih D f.type _ _ _ _ a (hal f (List.mem_cons_self ..)) h1 (vv (vw hu o) z) (vv (vw hv o) z)
           (by rw[List.length_take,List.length_drop,hcz];omega) (by rw[List.length_take,List.length_drop,hcz];omega)
          have hone:dA P f.type=some false→z=1:=by
           intro hagf
           have hk:=hal f (List.mem_cons_self ..)
           cases n with
           | zero=>simp[AI]at hk
           | succ n' =>
            unfold AI at hk
            unfold dA at hagf
            cases huf:P.underlying f.type with
            | none=>rw[huf]at hk;simp at hk
            | some d2 =>
             rw[huf]at hk hagf
             cases d2<;>simp at hk hagf<;>(have:=hk.2;rw[hz]at this;simpa using this)
          have p1:=AU hz (o:=o) hu1 hone
          have p2:=AU hz (o:=o) hv1 hone
          simp only[pM,hfo,p1,p2,heq]
          cases a with
          | false=>simp at h;simp[h]
          | true =>
           simp only[Bool.true_and]at h
           subst h
           exact ihl (o+z) c (fun g hg=>hal g (List.mem_cons_of_mem _ hg)) hlay h2 hle
      ·cases hlay
    exact this fs.toList 0 b (fun f hf=>(hall f hf).1) hlay (by simpa using h) (Nat.zero_le _)
def AH(P:Program)(t:TypeId):Bool:=AI P 20 t && !P.eqGuardType P.depth t&&dA P t == some true
theorem KQ{P:Program}{t:TypeId}(h:AH P t=true)(op:BinOp)(ho:op = .eql∨op = .neq)(xo yo:Operand)(xs ys:Array Value) :
 BH P op t xo yo (.agg xs) (.agg ys)=(bw P (Op.equalIn 10000 t (.agg xs) (.agg ys))).map fun b => .bool (if op = .eql then b else !b):=by
 unfold AH at h
 simp only[Bool.and_eq_true,Bool.not_eq_true',beq_iff_eq]at h
 have hp:bw P program=some P:=rfl
 unfold BH
 have hg:bw P (eqGuard op t xo yo (.agg xs) (.agg ys))=some ():=by
  rcases ho with rfl | rfl
  ·simp only[eqGuard,Bool.not_true,Bool.false_eq_true,if_false,bN,hp,Option.bind_some,h.1.2,Bool.not_false,if_true];rfl
  ·simp only[eqGuard,Bool.not_true,Bool.false_eq_true,if_false,bN,hp,Option.bind_some,h.1.2,Bool.not_false,if_true];rfl
 rw[bN,hg,Option.bind_some]
 rcases ho with rfl | rfl
 ·show bw P (do pure (Value.bool (←Op.equal t (.agg xs) (.agg ys))))=_
  rw[bN]
  unfold Op.equal Op.maxDepth
  cases bw P (Op.equalIn 10000 t (.agg xs) (.agg ys))<;>rfl
 ·show bw P (do pure (Value.bool (!(←Op.equal t (.agg xs) (.agg ys)))))=_
  rw[bN]
  unfold Op.equal Op.maxDepth
  cases bw P (Op.equalIn 10000 t (.agg xs) (.agg ys))<;>rfl
theorem BG{P:Program}{t:TypeId}(h:AH P t=true)(op:BinOp)(ho:op = .eql∨op = .neq)(xo yo:Operand){cs ds:List AV}{b:Bool}(hb:mf P 20 t cs ds=some b)(hu:(ny cs).isSome=true)(hv:(ny ds).isSome=true)
 (hc:some cs.length=aU P t) (hd:some ds.length=aU P t):aE P op t xo yo (some (.agg cs)) (some (.agg ds))=some (aB (if op = .eql then b else !b),[]):=by
 obtain⟨us,hu⟩:=Option.isSome_iff_exists.1 hu
 obtain⟨vs,hv⟩:=Option.isSome_iff_exists.1 hv
 have h0:=h
 unfold AH at h0
 simp only[Bool.and_eq_true,Bool.not_eq_true',beq_iff_eq]at h0
 have hl : ∀ {n:Nat},some n=aU P t→n=P.cellsOf t:=by
  intro n hn
  unfold aU at hn
  unfold Program.cellsOf
  rw[←hn];rfl
 obtain⟨u,v,e1,e2,heq⟩:=NU 20 9980 t cs ds us vs b h0.1.1 hb hu hv (hl hc) (hl hd)
 simp only[qJ,h0.2,Option.some.injEq]at e1 e2
 subst e1;subst e2
 have hpr:=KQ h op ho xo yo us.toArray vs.toArray
 rw[heq]at hpr
 have t1:fK (.agg cs)=some (.agg us.toArray):=by show(cs.mapM DJ).map _=_;rw[show cs.mapM DJ=some us from hu];rfl
 have t2:fK (.agg ds)=some (.agg vs.toArray):=by show(ds.mapM DJ).map _=_;rw[show ds.mapM DJ=some vs from hv];rfl
 simp only[aE,GU,mj,Bool.false_and,Bool.or_self,Bool.false_eq_true,if_false,t1,t2,hpr,Option.map_some,Option.bind_some,iA,scalar,if_true,cf]
@[simp] theorem PQ{P:Program}{t:TypeId}(h:AH P t=true)(xo yo:Operand){cs ds:List AV}(hb:(mf P 20 t cs ds).isSome=true)(hu:(ny cs).isSome=true)(hv:(ny ds).isSome=true)
 (hc:some cs.length=aU P t) (hd:some ds.length=aU P t):aE P .eql t xo yo (some (.agg cs)) (some (.agg ds))=some (aB ((mf P 20 t cs ds).getD false),[]):=by
 obtain⟨b,hb⟩:=Option.isSome_iff_exists.1 hb
 rw[BG h .eql (.inl rfl) xo yo hb hu hv hc hd,hb];rfl
@[simp] theorem PN{P:Program}{t:TypeId}(h:AH P t=true)(xo yo:Operand){cs ds:List AV}(hb:(mf P 20 t cs ds).isSome=true)(hu:(ny cs).isSome=true)(hv:(ny ds).isSome=true)
 (hc:some cs.length=aU P t) (hd:some ds.length=aU P t):aE P .neq t xo yo (some (.agg cs)) (some (.agg ds))=some (aB (!(mf P 20 t cs ds).getD false),[]):=by
 obtain⟨b,hb⟩:=Option.isSome_iff_exists.1 hb
 rw[BG h .neq (.inr rfl) xo yo hb hu hv hc hd,hb];rfl
@[simp] theorem Vl:ny []=some []:=id rfl
@[simp] theorem FO(k:IntKind)(n:Int)(l:List AV):ny (.v (.int k n) :: l)=(ny l).map (.int k n :: ·):=by
 unfold ny;simp only[List.mapM_cons,DJ];cases l.mapM DJ<;>rfl
@[simp] theorem TL(b:Bool)(l:List AV):ny (.v (.bool b) :: l)=(ny l).map (.bool b :: ·):=by
 unfold ny;simp only[List.mapM_cons,DJ];cases l.mapM DJ<;>rfl
@[simp] theorem ZB(b:UInt8)(l:List AV):ny (a8 b :: l)=(ny l).map (.int .u8 b.toNat :: ·):=FO _ _ _
@[simp] theorem XY(b:UInt32)(l:List AV):ny (aF b :: l)=(ny l).map (.int .u32 b.toNat :: ·):=FO _ _ _
@[simp] theorem RI(a b:Bool):wZ [aB a] [aB b]=some (decide (a=b)):=id rfl
@[simp] theorem Ci(k:IntKind)(a b:Int):wZ [.v (.int k a)] [.v (.int k b)]=some (decide (a=b)):=by simp[wZ]
@[simp] theorem Xp(a b:UInt8):wZ [a8 a] [a8 b]=some (decide (a=b)):=by
 unfold a8;rw[Ci];congr 2;rw[←UInt8.toNat_inj];exact propext (by omega)
@[simp] theorem UX(a b:UInt32):wZ [aF a] [aF b]=some (decide (a=b)):=by
 unfold aF;rw[Ci];congr 2;rw[←UInt32.toNat_inj];exact propext (by omega)
@[simp] theorem SL(b:Bool):Eb (aB b)=0:=id rfl
@[simp] theorem UI(k:IntKind)(n:Int):Eb (.v (.int k n))=1:=id rfl
@[simp] theorem YU(b:UInt8):Eb (a8 b)=1:=id rfl
@[simp] theorem WN(b:UInt32):Eb (aF b)=1:=id rfl
end Go.Ab
namespace Go.Ab
@[simp] theorem BB{P:Program}{t:TypeId}(h:((dW P t).bind (aU P)).isSome=true)(g:de)(lo hi mx:Option Int) :
 eS P g t (some cW) (some lo) (some hi) (some mx)=(bounds 0 (some 0) lo hi mx).map fun _=>(cW,[]):=by
 simp only[eS,h,if_true]
@[simp] theorem Is{P:Program}{t z:Nat}(h:(dW P t).bind (aU P)=some z)(g:de)(es:List AV)(c:Option Nat)(lo hi mx:Option Int) :
 eS P g t (some (.cw z es c)) (some lo) (some hi) (some mx)=(bounds es.length c lo hi mx).map fun(l,h,c)=>(.cw z ((es.drop l).take (h - l)) c,[]):=by
 simp only[eS,h,if_true]
theorem FX{P:Program}{t z:Nat}(h:(dW P t).bind (aU P)=some z)(g:de){es:List AV}{x:AV}(hx:Sl z es x){n:Int}(h0:0≤n)(hn:n≤es.length) :
 ∃y,eS P g t (some x) (some none) (some (some n)) (some none)=some (y,[])∧Sl z (es.take n.toNat) y:=by
 rcases hx with ⟨rfl,rfl⟩ | ⟨c,rfl,hcap⟩
 ·refine⟨cW,?_,.inl ⟨rfl,by simp⟩⟩
  rw[BB (by rw[h];rfl)]
  have:n=0:=by simp at hn;omega
  subst this;rfl
 ·refine⟨.cw z (es.take n.toNat) (c.map (· - 0)),?_,.inr ⟨_,rfl,by cases c with | none=>simp | some k=>simp at hcap ⊢;omega⟩⟩
  rw[Is h]
  simp only[bounds,Option.getD_none,Option.getD_some,Int.le_refl,true_and,if_pos (show 0≤n∧n≤es.length from⟨h0,hn⟩),Option.map_some]
  simp
def sB(l:List UInt8):AV:=aS ⟨l.toArray⟩
theorem N8{P:Program}{draw wk:Bool}{H:ab}{r:Ref}{t z by' n:Nat}{ps:List (Nat × AV)}{zz:AV}(hT:To P t z by'=true)(hsz:n * z≤16777216)(hv:eR H.get ps=some ps)(hrf:cb H.get (ps.map (·.2))=[])
 (hc:ps.all (fun p=>p.2.cells.length == z&&p.2.cells.all AV.one)=true) (hz:(dW P t).bind (eD P)=some zz) {es:List AV} (hf:fZ (List.replicate n zz) ps=some es) :
 eX P draw wk H r t n (some ps)=if draw then some (.cw z es (some n),H) else some (.cH r 0 n (some n),({ r with k:=0},some ⟨z,es,true,false⟩) :: H):=by
 obtain⟨e,zz',h1,h2,h3,h4,h5,h6,h7,h8⟩:=jj hT
 rw[h1]at hz
 simp only[Option.bind_some,h4,Option.some.injEq]at hz
 subst hz
 have hmk:mkSlice P H.get t n ps=some ⟨z,es,true,false⟩:=by
  simp only[mkSlice,h1,hv,h4,h2]
  rw[if_pos ⟨Nat.pos_of_ne_zero h7,hsz,h5,h6,by simpa using hc⟩,hf]
  rfl
 have hq:fC P draw H.get r t n (some ps)=if draw then some (.cw z es (some n),[]) else some (.cH r 0 n (some n),[⟨z,es,true,false⟩]):=by
  simp only[fC,hrf,ib,List.all_nil,if_true,hmk,Option.map_some]
  cases draw<;>rfl
 unfold eX
 rw[hq]
 cases draw<;>rfl
theorem DI{g:de}{r:Ref}{z:Nat}{es:List AV}{fz:Bool}(hr:g r=some ⟨z,es,true,fz⟩){n:Nat}(hn:n=es.length)(k:Nat)(c:Option Nat):view g (k+1) (.cH r 0 n c)=some (.cw z es c):=by
 subst hn
 rw[A6 hr,if_pos ⟨rfl,by simp⟩,List.drop_zero,List.take_length]
theorem Own.cZ{z:Nat}{es:List AV}{H H':ab}{x s s':AV}(h:Own z es H x)(hp : ∀q b,H.get q=some b→s.at?≠some q→H'.get q=some b∧s'.at?≠some q)(hne : ∀q,x.at?=some q→s.at?≠some q):Own z es H' x ∧∀q,x.at?=some q→s'.at?≠some q:=by
 rcases h with ⟨rfl,rfl⟩ | ⟨r,rfl,hr⟩
 ·exact⟨JG z H',fun q hq=>by simp[AV.at?]at hq⟩
 ·obtain⟨h1,h2⟩:=hp r _ hr (hne r rfl)
  exact⟨.inr ⟨r,rfl,h1⟩,fun q hq=>by simp only[AV.at?,Option.some.injEq]at hq;subst hq;exact h2⟩
theorem IP{P:Program}{t:TypeId}(h:isBool P t=true):P.underlying t=some .bool:=by
 unfold isBool at h
 split at h
 ·assumption
 ·cases h
theorem Da{P:Program}{t:TypeId}(h:isBool P t=true)(d:Nat)(a b:Bool):bw P (Op.equalIn (d+1) t (.bool a) (.bool b))=some (a == b):=by
 simp only[Op.equalIn,bN,jZ (IP h),Option.bind_some]
 rfl
theorem Iy{P:Program}{t:TypeId}(h:isBool P t=true)(op:BinOp)(ho:op = .eql∨op = .neq)(xo yo:Operand)(a b:Bool) :
 BH P op t xo yo (.bool a) (.bool b)=some (.bool (if op = .eql then a == b else !(a == b))):=by
 have he:bw P (Op.equal t (.bool a) (.bool b))=some (a == b):=Da h 9999 a b
 unfold BH
 rcases ho with rfl | rfl
 ·have:bw P (eqGuard .eql t xo yo (.bool a) (.bool b))=some ():=rfl
  rw[bN,this,Option.bind_some]
  show bw P (do pure (Value.bool (←Op.equal t (.bool a) (.bool b))))=_
  rw[bN,he];rfl
 ·have:bw P (eqGuard .neq t xo yo (.bool a) (.bool b))=some ():=rfl
  rw[bN,this,Option.bind_some]
  show bw P (do pure (Value.bool (!(←Op.equal t (.bool a) (.bool b)))))=_
  rw[bN,he];rfl
@[simp] theorem OF{P:Program}{t:TypeId}(h:isBool P t=true)(xo yo:Operand)(a b:Bool):aE P .eql t xo yo (some (aB a)) (some (aB b))=some (aB (a == b),[]):=by
 simp only[aE,GU,mj,fK,Iy h .eql (.inl rfl),Bool.false_and,Bool.or_self,Bool.false_eq_true,if_false,Option.bind_some,iA,scalar,if_true,cf,Option.map_some]
@[simp] theorem ZO(P:Program)(d:Bool)(g:de)(r:Ref)(ts:Array TypeId)(k:IntKind)(a b:Int):aK P d g r .min ts [.v (.int k a),.v (.int k b)]=some (.v (.int k (if b<a then b else a)),[]):=id rfl
@[simp] theorem ZP(P:Program)(d:Bool)(g:de)(r:Ref)(ts:Array TypeId)(k:IntKind)(a b:Int):aK P d g r .max ts [.v (.int k a),.v (.int k b)]=some (.v (.int k (if b>a then b else a)),[]):=id rfl
theorem Own.cons{z:Nat}{es:List AV}{H:ab}{x:AV}(h:Own z es H x)(hF:Fr H)(d t:Nat)(b:Option bM):Own z es ((⟨d,t,H.gen d t,0⟩,b) :: H) x:=by
 rcases h with ⟨rfl,rfl⟩ | ⟨r,rfl,hr⟩
 ·exact JG z _
 ·refine .inr ⟨r,rfl,?_⟩
  rw[ab.o4,if_neg (pC hF (by rw[hr];rfl) d t 0)]
  exact hr
theorem Own.FX{P:Program}{t z:Nat}(h:(dW P t).bind (aU P)=some z){H:ab}{es:List AV}{x:AV}(hx:Own z es H x){n:Nat}(hn:n≤es.length) :
 ∃y y',eS P H.get t (some x) (some none) (some (some (n:Int))) (some none)=some (y,[])∧Ab.view H.get depth y=some y'∧Sl z (es.take n) y':=by
 rcases hx with ⟨rfl,rfl⟩ | ⟨r,rfl,hr⟩
 ·refine⟨cW,cW,?_,rfl,.inl ⟨rfl,by simp⟩⟩
  rw[BB (by rw[h];rfl)]
  have:n=0:=by simpa using hn
  subst this;rfl
 ·refine⟨.cH r 0 n none,.cw z (es.take n) none,?_,?_,Sl.mk z _⟩
  ·simp only[eS,hr,h,if_true,bounds,Option.getD_none,Option.getD_some,Int.le_refl,true_and]
   rw[if_pos ⟨by omega,by omega⟩]
   simp
  ·rw[bD,A6 hr,if_pos ⟨rfl,by simpa using hn⟩,List.drop_zero]
end Go.Ab
namespace Go.Ab
@[simp] theorem Up(P:Program)(r:Ref)(e:TypeId){z:AV}(hz:eD P e=some z)(h0:0<(aU P e).getD 0):bX P r e=if some z.cells.length=aU P e∧z.cells.all AV.one=true then some (.ptr r 0 0,[⟨(aU P e).getD 0,[z],false,false⟩]) else none:=by
 unfold bX
 rw[hz]
 cases h:aU P e with
 | none=>simp
 | some n=>rw[h]at h0;simp only[Option.getD_some]at h0;simp[h0]
@[simp] theorem MP{P:Program}{t f:Nat}(h:0<((aM P t f).getD (0,0)).2)(r:Ref)(i j:Nat):aa P t (some (.ptr r i j)) f=some (.ptr r i (j+((aM P t f).getD (0,0)).1),[]):=by
 unfold aa
 cases hf:aM P t f with
 | none=>rw[hf]at h;simp at h
 | some p=>obtain⟨o,s⟩:=p;rw[hf]at h;simp only[Option.getD_some]at h ⊢;rw[if_pos h]
@[simp] theorem LH{P:Program}{t f:Nat}(h:0<((aM P t f).getD (0,0)).2)(n:Nat)(es:List AV)(i j:Nat):aa P t (some (.iptr n es i j)) f=some (.iptr n es i (j+((aM P t f).getD (0,0)).1),[]):=by
 unfold aa
 cases hf:aM P t f with
 | none=>rw[hf]at h;simp at h
 | some p=>obtain⟨o,s⟩:=p;rw[hf]at h;simp only[Option.getD_some]at h ⊢;rw[if_pos h]
def JF(cs:List AV)(off n:Nat)(ag:Bool):Option AV:=if ag then (if off+n≤cs.length then some (.agg ((cs.drop off).take n)) else none) else cs[off]?
@[simp] theorem YL(cs:List AV)(off n:Nat):JF cs off n true=if off+n≤cs.length then some (.agg ((cs.drop off).take n)) else none:=id rfl
@[simp] theorem YM(cs:List AV)(off n:Nat):JF cs off n false=cs[off]?:=id rfl
@[simp] theorem Sk{P:Program}{t f:Nat}(h:(((ma P t f).bind fun p=>aU P p.2).isSome&&((ma P t f).bind fun p=>dA P p.2).isSome)=true)(cs:List AV) :
 lg P t (some (.agg cs)) f=cf (JF cs ((ma P t f).getD (0,0)).1 ((aU P ((ma P t f).getD (0,0)).2).getD 0) ((dA P ((ma P t f).getD (0,0)).2).getD false)):=by
 unfold lg
 cases hf:ma P t f with
 | none=>rw[hf]at h;simp at h
 | some p =>
  obtain⟨o,ft⟩:=p
  rw[hf]at h
  simp only[Option.bind_some,Bool.and_eq_true]at h
  obtain⟨n,hn⟩:=Option.isSome_iff_exists.1 h.1
  obtain⟨b,hb⟩:=Option.isSome_iff_exists.1 h.2
  simp only[Option.getD_some,uG,hn,hb]
  cases b<;>rfl
@[simp] theorem OA(cs:List AV)(new:List AV)(h:new.length=cs.length):hX [AV.agg cs] 0 0 new=some [AV.agg new]:=by
 simp[hX,oh,patch,h]
@[simp low] theorem OR(cs:List AV)(j:Nat)(new:List AV)(h:j+new.length≤cs.length):hX [AV.agg cs] 0 j new=some [AV.agg (patch cs j new)]:=by
 simp[hX,oh,h]
@[simp] theorem Wz(cs:List AV)(j:Nat)(new:List AV):patch cs j new=cs.take j++new++cs.drop (j+new.length):=id rfl
@[simp] theorem PG{P:Program}{t:TypeId}(ha:(dA P t).isSome=true)(hn:(aU P t).isSome=true)(H:ab)(r:Ref)(i j:Nat):cR P H (.ptr r i j) t=Ny (H.get r) i j ((aU P t).getD 0) ((dA P t).getD false):=by
 obtain⟨a,ha⟩:=Option.isSome_iff_exists.1 ha
 obtain⟨n,hn⟩:=Option.isSome_iff_exists.1 hn
 simp only[cR,ha,hn,Option.getD_some]
 rfl
@[simp] theorem OE{P:Program}{t:TypeId}{z:List AV}(hz:eD P t=some (.agg z))(ht:iv P t=none)(hp:(fq P t).isSome=true)(vs:List (Nat × AV)) :
 cy P t (some vs)=(kz (fun i=>((fq P t).getD [])[i]?) z vs).map fun cs=>(.agg cs,[]):=by
 obtain⟨ps,hp⟩:=Option.isSome_iff_exists.1 hp
 simp only[cy,hz,ht,hp,Option.getD_some]
@[simp] theorem PJ(vs:List AV)(i:Nat):aJ (some (.tup vs)) i=cf vs[i]?:=id rfl
@[simp] theorem Wu(r:Ref)(i j:Nat):jX (some (.ptr r i j))=some (.ptr r i j,[]):=id rfl
@[simp] theorem ab.Qb(d t:Nat):ab.gen [] d t=0:=id rfl
@[simp] theorem ab.G6(d t g k:Nat)(b:Option bM)(H:ab)(d' t':Nat):ab.gen ((⟨d,t,g,k⟩,b) :: H) d' t'=if d=d'∧t=t' then g+1 else ab.gen H d' t':=id rfl
end Go.Ab
namespace Go.Ab
@[simp] theorem GI{α β:Type}(f:α→Option β)(a:α)(l:List α):List.mapM f (a :: l)=(f a).bind fun b=>(List.mapM f l).map (b :: ·):=by
 rw[List.mapM_cons];cases f a<;>cases List.mapM f l<;>rfl
@[simp] theorem Se{α:Type}(f:α→AV)(l:List α)(i j n:Nat)(ag:Bool):dX (l.map f) i j n ag=(l[i]?).bind fun a=>dX [f a] 0 j n ag:=by
 unfold dX
 rw[List.getElem?_map]
 cases l[i]?<;>rfl
theorem drop_cons{α:Type}{l:List α}{k:Nat}{a:α}{s:List α}(h:l.drop k=a :: s) : ∃hk:k<l.length,l[k]=a∧l.drop (k+1)=s∧l[k]?=some a:=by
 have hk:k<l.length:=by
  have:=congrArg List.length h
  simp at this;omega
 rw[List.drop_eq_getElem_cons hk]at h
 cases h
 exact⟨hk,rfl,rfl,List.getElem?_eq_getElem hk⟩
theorem drop_nil{α:Type}{l:List α}{k:Nat}(h:l.drop k=[])(hk:k≤l.length):k=l.length:=by
 have:=congrArg List.length h
 simp at this;omega
theorem ku{b:Bool}{q:gz}{K:AV→Prop}{m:Mk (q,K)}(h1:b=true→ak q K)(h2:b=false→K AV.undef):gQ (aB b) true q K m:=by
 cases b
 ·exact(Xi q K m).2 (h2 rfl)
 ·exact(Xg q K m).2 (h1 rfl)
theorem ky{b:Bool}{q:gz}{K:AV→Prop}{m:Mk (q,K)}(h1:b=true→K AV.undef)(h2:b=false→ak q K):gQ (aB b) false q K m:=by
 cases b
 ·exact(Xj q K m).2 (h2 rfl)
 ·exact(Xh q K m).2 (h1 rfl)
theorem kq{b:Bool}{H:ab}{q:dy}{K:AV→ab→Prop}{m:Mk (q,K)}(h1:b=true→aO q K)(h2:b=false→K AV.undef H):gW (aB b) true H q K m:=by
 cases b
 ·exact(Xe H q K m).2 (h2 rfl)
 ·exact(Xc H q K m).2 (h1 rfl)
theorem kr{b:Bool}{H:ab}{q:dy}{K:AV→ab→Prop}{m:Mk (q,K)}(h1:b=true→K AV.undef H)(h2:b=false→aO q K):gW (aB b) false H q K m:=by
 cases b
 ·exact(Xf H q K m).2 (h2 rfl)
 ·exact(Xd H q K m).2 (h1 rfl)
theorem ah{H:ab}(hF:Fr H){q:Ref}(h:(H.get q).isSome=true)(d t k:Nat):((⟨d,t,H.gen d t,k⟩:Ref)=q)=False :=
 eq_false (pC hF h d t k)
theorem ai{H:ab}(hF:Fr H){q:Ref}(h:(H.get q).isSome=true)(d t k:Nat):(q=(⟨d,t,H.gen d t,k⟩:Ref))=False :=
 eq_false fun e=>pC hF h d t k e.symm
theorem ar{H:ab}(hF:Fr H)(d t k:Nat):H.get ⟨d,t,H.gen d t,k⟩=none:=hF _ _ _ _ (Nat.le_refl _)
theorem aq{H:ab}(hF:Fr H){d t g:Nat}(hg:g=H.gen d t)(b:Option bM):Fr ((⟨d,t,g,0⟩,b) :: H):=by subst hg;exact hF.cons d t b
theorem aD{H:ab}(hF:Fr H){r:Ref}(hr:(H.get r).isSome=true)(b:Option bM):Fr (H.put r b):=hF.put b hr
theorem ad{H:ab}{r:Ref}(hr:(H.get r).isSome=true)(b:Option bM)(d t:Nat):(H.put r b).gen d t=H.gen d t:=ab.kp H r b hr d t
theorem Lh{E:Env}{f:FuncId}(hm:uO (E.mode f)=false)(x:AV)(H:ab)(y:AV):handed E f x H y↔view H.get depth x=some y:=by
 unfold handed
 rw[if_neg (by simpa using hm)]
theorem G4{E:Env}{f:FuncId}(hm:uO (E.mode f)=true)(x:AV)(H:ab)(y:AV):handed E f x H y↔(aG H.get depth x).Nodup∧dK H.get depth x=some y:=by
 unfold handed
 rw[if_pos (by simpa using hm)]
def u5(wk:Bool)(H:ab)(r:Ref)(refs:List Ref)(o:Option AV):dy:=match o with
 | some y=>if flat depth y||ib H.get refs then some ((aN r depth y []).1,keyed r 0 (aN r depth y []).2 H)
  else if wk then some ((aN r depth y []).1,keyed r 0 (aN r depth y []).2 (cC H refs)) else none
 | none=>none
noncomputable def N6(E:Env)(wk:Bool)(H:ab)(r:Ref)(refs:List Ref)(f:FuncId)(o:Option (List AV)):dy:=match o with
 | some xs=>u5 wk H r refs (bj E f xs)
 | none=>none
theorem bq{E:Env}(wk:Bool)(dep:Nat)(H:ab)(r:Ref)(f:FuncId)(hm:(E.mode f == 2)=false)(hm3:(E.mode f == 3)=false)(first captured args:List AV) :
 bn E wk (bj E) (bU E dep) H r (some (.fn (.func f) first captured)) args=N6 E wk H r (cb H.get (first++args++captured)) f ((first++args++captured).mapM (view H.get depth)):=by
 have hm':E.mode f≠2:=by simpa using hm
 simp only[bn,ij,kE,if_neg hm',hm3,Bool.false_and,Bool.or_false]
 cases(first++args++captured).mapM (view H.get depth) with
 | none=>cases wk<;>rfl
 | some xs =>
  dsimp only[N6]
  cases bj E f xs with
  | none=>cases wk<;>rfl
  | some y =>
   dsimp only[u5,Option.map_some]
   cases hc:(flat depth y||ib H.get (cb H.get (first++args++captured))) with
   | true=>rfl
   | false=>cases wk<;>rfl
theorem GX(r:Ref)(n:Nat)(t:TypeId)(x:AV)(bs:List bM):aN r (n+1) (.ifc t x) bs=(.ifc t (aN r n x bs).1,(aN r n x bs).2):=id rfl
@[simp] theorem Tu(E:Env)(wk:Bool)(H:ab)(r:Ref)(refs:List Ref)(f:FuncId)(xs:List AV):N6 E wk H r refs f (some xs)=u5 wk H r refs (bj E f xs):=id rfl
@[simp] theorem Tv(wk:Bool)(H:ab)(r:Ref)(refs:List Ref)(y:AV)(h:flat depth y=true):u5 wk H r refs (some y)=some (y,H):=by
 simp only[u5,h,Bool.true_or,if_true]
 rw[qU r depth depth y [] h]
 rfl
theorem bo(wk:Bool)(H:ab)(r:Ref)(y:AV):u5 wk H r [] (some y)=some ((aN r depth y []).1,keyed r 0 (aN r depth y []).2 H):=by
 simp only[u5,ib,List.all_nil,Bool.or_true,if_true]
theorem bF(wk:Bool)(H:ab)(r:Ref)(refs:List Ref)(y:AV)(h:ib H.get refs=true):u5 wk H r refs (some y)=some ((aN r depth y []).1,keyed r 0 (aN r depth y []).2 H):=by
 simp only[u5,h,Bool.or_true,if_true]
@[simp] theorem ZX(n:Nat)(x:Value):flat (n+1) (.v x)=true:=id rfl
@[simp] theorem ZY(n:Nat)(x:UInt8):flat (n+1) (a8 x)=true:=id rfl
@[simp] theorem Y0(n:Nat)(x:UInt32):flat (n+1) (aF x)=true:=id rfl
@[simp] theorem Xn(n:Nat)(cs:List AV):flat (n+1) (.agg cs)=cs.all (flat n):=id rfl
@[simp] theorem UW(n:Nat)(cs:List AV):flat (n+1) (.tup cs)=cs.all (flat n):=id rfl
@[simp] theorem Xl(n:Nat)(t:TypeId)(x:AV):flat (n+1) (.ifc t x)=flat n x:=id rfl
@[simp] theorem Xm(n z:Nat)(es:List AV)(c:Option Nat):flat (n+1) (.fsl z es c)=false:=id rfl
@[simp] theorem QT(g:de):cb g []=[]:=id rfl
@[simp] theorem PF(g:de)(x:AV)(xs:List AV):cb g (x :: xs)=aG g depth x++cb g xs:=id rfl
@[simp] theorem RS(g:de)(n:Nat)(x:Value):aG g n (.v x)=[]:=by cases n<;>rfl
@[simp] theorem RT(g:de)(n:Nat)(x:UInt8):aG g n (a8 x)=[]:=by cases n<;>rfl
@[simp] theorem QJ(g:de)(n:Nat)(x:UInt32):aG g n (aF x)=[]:=by cases n<;>rfl
@[simp] theorem OX(g:de)(n z:Nat)(es:List AV)(c:Option Nat):aG g n (.cw z es c)=[]:=by cases n<;>rfl
@[simp] theorem OB(g:de)(n z:Nat)(es:List AV)(i j:Nat):aG g n (.iptr z es i j)=[]:=by cases n<;>rfl
@[simp] theorem OY(g:de)(n:Nat)(cs:List AV):aG g (n+1) (.agg cs)=cs.flatMap (aG g n):=id rfl
@[simp] theorem OU(g:de)(n:Nat)(cs:List AV):aG g (n+1) (.tup cs)=cs.flatMap (aG g n):=id rfl
@[simp] theorem OW(g:de)(n:Nat)(r:Ref)(o l:Nat)(c:Option Nat):aG g (n+1) (.cH r o l c)=[r]:=id rfl
@[simp] theorem QI(g:de)(n:Nat)(f:Fn)(a b:List AV):aG g (n+1) (.fn f a b)=a.flatMap (aG g n)++b.flatMap (aG g n):=id rfl
def JC(g:de)(n:Nat)(o:Option bM):List Ref:=match o with
 | some b=>if b.arr then [] else b.es.flatMap (aG g n)
 | none=>[]
@[simp] theorem OV(g:de)(n:Nat)(r:Ref)(i j:Nat):aG g (n+1) (.ptr r i j)=r :: JC g n (g r):=id rfl
@[simp] theorem PR(g:de)(n:Nat)(b:bM):JC g n (some b)=if b.arr then [] else b.es.flatMap (aG g n):=id rfl
def QL(o l:Nat)(c:Option Nat)(b:Option bM):Option AV:=match b with
 | some b=>if b.arr=true∧o+l≤b.es.length then some (.cw b.esz ((b.es.drop o).take l) c) else none
 | none=>none
@[simp] theorem TJ(g:de)(n:Nat)(r:Ref)(o l:Nat)(c:Option Nat):view g (n+1) (.cH r o l c)=QL o l c (g r):=id rfl
@[simp] theorem RV(o l:Nat)(c:Option Nat)(b:bM):QL o l c (some b)=if b.arr=true∧o+l≤b.es.length then some (.cw b.esz ((b.es.drop o).take l) c) else none:=id rfl
def QK(g:de)(n i j:Nat)(b:Option bM):Option AV:=match b with
 | some b=>if b.arr then some (.iptr b.esz b.es i j) else (b.es.mapM (view g n)).map fun es => .iptr b.esz es i j
 | none=>none
@[simp] theorem TI(g:de)(n:Nat)(r:Ref)(i j:Nat):view g (n+1) (.ptr r i j)=QK g n i j (g r):=id rfl
@[simp] theorem RU(g:de)(n i j:Nat)(b:bM):QK g n i j (some b)=if b.arr then some (.iptr b.esz b.es i j) else (b.es.mapM (view g n)).map fun es => .iptr b.esz es i j:=id rfl
@[simp] theorem XS(g:de)(n:Nat)(f:Fn)(a b:List AV):view g (n+1) (.fn f a b)=(a.mapM (view g n)).bind fun a=>(b.mapM (view g n)).map fun b => .fn f a b:=by
 rw[view]
 cases a.mapM (view g n)<;>cases b.mapM (view g n)<;>rfl
@[simp] theorem W7(r:Ref)(n:Nat)(x:Value)(bs:List bM):aN r n (.v x) bs=(.v x,bs):=by cases n<;>rfl
@[simp] theorem W8(r:Ref)(n:Nat)(x:UInt8)(bs:List bM):aN r n (a8 x) bs=(a8 x,bs):=by cases n<;>rfl
@[simp] theorem UR(r:Ref)(n:Nat)(x:UInt32)(bs:List bM):aN r n (aF x) bs=(aF x,bs):=by cases n<;>rfl
@[simp] theorem S3(r:Ref)(n z:Nat)(es:List AV)(c:Option Nat)(bs:List bM):aN r n (.cw z es c) bs=(.cw z es c,bs):=by cases n<;>rfl
@[simp] theorem S4(r:Ref)(n z:Nat)(es:List AV)(c:Option Nat)(bs:List bM)(hz:z≠0):aN r (n+1) (.fsl z es c) bs=(.cH { r with k:=bs.length} 0 es.length c,bs++[⟨z,es,true,false⟩]):=by
 simp only[aN,if_neg hz]
def pD(r:Ref)(n:Nat):List AV→List AV→List bM→List AV × List bM
 | [],acc,bs=>(acc,bs)
 | c :: cs,acc,bs=>pD r n cs (acc++[(aN r n c bs).1]) (aN r n c bs).2
theorem B7(r:Ref)(n:Nat)(cs:List AV) : ∀(acc:List AV)(bs:List bM),cs.foldl (fun(p:List AV × List bM) c=>let (y,bs):=aN r n c p.2;(p.1++[y],bs)) (acc,bs)=pD r n cs acc bs:=by
 induction cs with
 | nil=>intro acc bs;rfl
 | cons c cs ih=>intro acc bs;rw[List.foldl_cons];exact ih _ _
@[simp] theorem S5(r:Ref)(n:Nat)(cs:List AV)(bs:List bM):aN r (n+1) (.agg cs) bs=(.agg (pD r n cs [] bs).1,(pD r n cs [] bs).2):=by
 rw[←B7];rfl
@[simp] theorem S2(r:Ref)(n:Nat)(cs:List AV)(bs:List bM):aN r (n+1) (.tup cs) bs=(.tup (pD r n cs [] bs).1,(pD r n cs [] bs).2):=by
 rw[←B7];rfl
@[simp] theorem QZ(r:Ref)(n:Nat)(acc:List AV)(bs:List bM):pD r n [] acc bs=(acc,bs):=id rfl
@[simp] theorem P7(r:Ref)(n:Nat)(c:AV)(cs acc:List AV)(bs:List bM):pD r n (c :: cs) acc bs=pD r n cs (acc++[(aN r n c bs).1]) (aN r n c bs).2:=id rfl
@[simp] theorem OJ(H:ab):cC H []=H:=id rfl
def JY(H:ab)(r:Ref)(b:Option bM):ab:=match b with
 | some b=>H.put r (some { b with jg:=true})
 | none=>H
@[simp] theorem NL(H:ab)(r:Ref)(rs:List Ref):cC H (r :: rs)=cC (JY H r (H.get r)) rs:=by
 show(match H.get r with | some b=>cC (H.put r (some { b with jg:=true})) rs | none=>cC H rs)=_
 cases H.get r<;>rfl
@[simp] theorem Qc(H:ab)(r:Ref)(b:bM):JY H r (some b)=H.put r (some { b with jg:=true}):=id rfl
def J1(l:Nat)(c:Option Nat)(b:Option bM):Option AV:=match b with
 | some b=>if b.arr=true∧l≤b.es.length then some (if b.jg then .cw b.esz (b.es.take l) c else .fsl b.esz (b.es.take l) c) else none
 | none=>none
@[simp] theorem Tg(g:de)(n:Nat)(r:Ref)(l:Nat)(c:Option Nat):dK g (n+1) (.cH r 0 l c)=J1 l c (g r):=id rfl
@[simp] theorem Qn(l:Nat)(c:Option Nat)(b:bM):J1 l c (some b)=if b.arr=true∧l≤b.es.length then some (if b.jg then .cw b.esz (b.es.take l) c else .fsl b.esz (b.es.take l) c) else none:=id rfl
@[simp] theorem Xo(g:de)(n:Nat)(x:Value):dK g (n+1) (.v x)=some (.v x):=id rfl
@[simp] theorem Th(g:de)(n:Nat)(cs:List AV):dK g (n+1) (.agg cs)=(cs.mapM (dK g n)).map .agg:=id rfl
@[simp] theorem Tf(g:de)(n:Nat)(cs:List AV):dK g (n+1) (.tup cs)=(cs.mapM (dK g n)).map .tup:=id rfl
theorem Sl.idx{z:Nat}{es:List AV}{x:AV}(h:Sl z es x){P:Program}{t:TypeId}(ht:(dW P t).bind (aU P)=some z)(g:de)(kd:IntKind)(k:Int) :
 aH P g t (some x) (some (.v (.int kd k)))=if 0≤k∧k<es.length then some (.iptr z es k.toNat 0,[]) else none:=by
 rcases h with ⟨rfl,rfl⟩ | ⟨c,rfl,_⟩
 ·obtain⟨e,he,hz⟩:=Hm ht
  rw[if_neg (by simp)]
  simp[aH,intOf,he]
 ·exact BE ht g es c kd k
theorem Sl.exp{z:Nat}{es:List AV}{x:AV}(h:Sl z es x)(g:de)(n:Nat):dK g (n+1) x=some x:=by
 rcases h with ⟨rfl,rfl⟩ | ⟨c,rfl,_⟩<;>rfl
theorem Sl.imp'{z:Nat}{es:List AV}{x:AV}(h:Sl z es x)(r:Ref)(n:Nat)(bs:List bM):aN r n x bs=(x,bs):=by
 rcases h with ⟨rfl,rfl⟩ | ⟨c,rfl,_⟩<;>cases n<;>rfl
theorem Sl.r{z:Nat}{es:List AV}{x:AV}(h:Sl z es x):qT x=some es.length∧(∀g n,Ab.view g (n+1) x=some x)∧(∀g n,aG g n x=[])∧x.cells=[x]∧x.one=true∧(∀g n,dK g (n+1) x=some x)∧(∀r n bs,aN r n x bs=(x,bs)) :=
 ⟨h.len,h.view,h.refs,h.cells.1,h.cells.2,h.exp,h.imp'⟩
@[simp] theorem aar(z:Nat)(es es':List AV)(c:Option Nat):Sl z es (.cw z es' c)↔es=es'∧es.length≤c.getD es.length:=by
 constructor
 ·rintro(⟨e,_⟩ | ⟨c',e,h⟩)
  ·cases e
  ·cases e;exact⟨rfl,h⟩
 ·rintro⟨rfl,h⟩;exact .inr ⟨c,rfl,h⟩
@[simp] theorem aaq(z:Nat)(es:List AV):Sl z es cW↔es=[]:=by
 constructor
 ·rintro(⟨_,e⟩ | ⟨c',e,h⟩)
  ·exact e
  ·cases e
 ·rintro rfl;exact .inl ⟨rfl,rfl⟩
@[simp] theorem at_nil:cW.at?=none:=id rfl
@[simp] theorem aah(r:Ref)(o n:Nat)(c:Option Nat):(AV.cH r o n c).at?=some r:=id rfl
theorem Og{P:Program}{t t' z by':Nat}(hT:To P t z by'=true)(hA:CQ P t'=true)(wk:Bool)(H:ab)(r:Ref){new:List AV}{x:AV}(hx:QE H.get z new x)(hn:new≠[])(hb:new.length * by'≤cg) :
 cQ P wk H r (some t) (some t') cW x=some (.cH r 0 new.length none,({ r with k:=0},some ⟨z,new,true,false⟩) :: H):=by
 obtain⟨e,zz,h1,h2,h3,h4,h5,h6,h7,h8⟩:=jj hT
 have hnew:=hx.mm hT h1
 unfold CQ at hA
 simp only[Bool.and_eq_true,Bool.not_eq_true']at hA
 have hun:(P.underlying t').isNone=false:=by cases h:P.underlying t' with | none=>rw[h]at hA;simp at hA | some d=>rfl
 have hc : ¬((P.underlying t').isNone=true∨isInt P t'≠isNum x):=by
  rw[hun,hA.2,hx.num];simp
 have hd : ¬(z≠z∨z=0∨by'=0∨zz.cells.length≠z):=by simp[h5,h7,h8]
 simp only[cQ,gH,Option.bind_some,h1,Option.map_some,Option.getD_some,if_neg hc,h2,h3,h4,hnew,if_neg hd,if_neg hn,if_pos hb]
 rfl
theorem Of{P:Program}{t t' z by':Nat}(hT:To P t z by'=true)(hA:CQ P t'=true)(H:ab)(r q:Ref)(n:Nat){new es:List AV}{x:AV}(hx:QE H.get z new x){fz:Bool}(hq:H.get q=some ⟨z,es,true,fz⟩)(hn:n=es.length)(hne:new≠[])(hb:(es.length+new.length) * by'≤cg) :
 cQ P true H r (some t) (some t') (.cH q 0 n none) x=some (.cH ⟨q.d,q.t,H.gen q.d q.t,0⟩ 0 (es.length+new.length) none,(⟨q.d,q.t,H.gen q.d q.t,0⟩,some ⟨z,es++new,true,fz⟩) :: H.put q none):=by
 subst hn
 obtain⟨e,zz,h1,h2,h3,h4,h5,h6,h7,h8⟩:=jj hT
 have hnew:=hx.mm hT h1
 unfold CQ at hA
 simp only[Bool.and_eq_true,Bool.not_eq_true']at hA
 have hun:(P.underlying t').isNone=false:=by cases h:P.underlying t' with | none=>rw[h]at hA;simp at hA | some d=>rfl
 have hc : ¬((P.underlying t').isNone=true∨isInt P t'≠isNum x):=by
  rw[hun,hA.2,hx.num];simp
 have hd : ¬(z≠z∨z=0∨by'=0∨zz.cells.length≠z):=by simp[h5,h7,h8]
 have hd' : ¬(z≠z∨z=0∨by'=0∨new=[]∨zz.cells.length≠z):=by simp[h5,h7,h8,hne]
 have hqa:gH P H.get r (some t) (some t') (.cH q 0 es.length none) x=none:=by
  simp only[gH,Option.bind_some,h1,Option.map_some,Option.getD_some,if_neg hc,h2,h3,h4,hnew,if_neg hd,hq,if_neg hne]
  simp
 simp only[cQ,hqa,D6,Gv]
 simp only[kf,Option.bind_some,h1,Option.map_some,Option.getD_some,if_neg hc,h2,h3,h4,hnew,if_neg hd',hq,hb,and_self,if_true,true_and]
def lB(P:Program)(t:TypeId):Nat:=((dW P t).bind (aU P)).getD 0
def p9(P:Program)(t:TypeId):Nat:=((dW P t).bind (lf P)).getD 0
def iG(P:Program)(t:TypeId):AV:=((dW P t).bind (eD P)).getD AV.undef
def nK(P:Program)(t:TypeId):Bool:=To P t (lB P t) (p9 P t)
def Qq(z:Nat)(o:Option (Nat × List AV)):Option (List AV):=match o with
 | some (z',es)=>if z'=z then some es else none
 | none=>none
def mZ(z:Nat)(g:de)(x:AV):Option (List AV):=match x with
 | .v (.slice none 0 0)=>some []
 | .v (.int _ _)=>none
 | x=>Qq z (cN g x)
@[simp] theorem U0(z:Nat)(g:de):mZ z g cW=some []:=id rfl
@[simp] theorem U1(z:Nat)(g:de)(z':Nat)(es:List AV)(c:Option Nat):mZ z g (.cw z' es c)=if z'=z then some es else none:=id rfl
def Ti(z o n:Nat)(b:Option bM):Option (List AV):=match b with
 | some b=>if (b.arr=true∧o+n≤b.es.length)∧b.esz=z then some ((b.es.drop o).take n) else none
 | none=>none
@[simp] theorem U2(z o n:Nat)(b:bM):Ti z o n (some b)=if (b.arr=true∧o+n≤b.es.length)∧b.esz=z then some ((b.es.drop o).take n) else none:=id rfl
@[simp] theorem UZ(z:Nat)(g:de)(r:Ref)(o n:Nat)(c:Option Nat):mZ z g (.cH r o n c)=Ti z o n (g r):=by
 unfold mZ Ti
 simp only[cN]
 cases g r with
 | none=>rfl
 | some b =>
  dsimp only
  by_cases h:b.arr=true∧o+n≤b.es.length
  ·by_cases h2:b.esz=z
   ·rw[if_pos h,if_pos ⟨h,h2⟩];simp[Qq,h2]
   ·rw[if_pos h,if_neg (fun e=>h2 e.2)];simp[Qq,h2]
  ·rw[if_neg h,if_neg (fun e=>h e.1)];rfl
theorem Sl.mZ{z:Nat}{es:List AV}{x:AV}(h:Sl z es x)(g:de):Ab.mZ z g x=some es:=by
 rcases h with ⟨rfl,rfl⟩ | ⟨c,rfl,_⟩<;>simp
theorem sC{z:Nat}{g:de}{x:AV}{new:List AV}(h:mZ z g x=some new):QE g z new x:=by
 unfold mZ at h
 split at h
 ·cases h;exact .inl ⟨rfl,rfl⟩
 ·cases h
 ·rename_i h1 h2
  unfold Qq at h
  split at h
  ·rename_i z' es he
   split at h
   ·rename_i hz
    cases h;subst hz
    refine .inr ⟨?_,fun e=>?_,he⟩
    ·cases x with
     | v u=>cases u with
      | int k n=>exact(h2 _ _ rfl).elim
      | _=>rfl
     | _=>rfl
    ·exact h1 e
   ·cases h
  ·cases h
def XL(z by':Nat)(H:ab)(r:Ref)(new:Option (List AV)):dy:=match new with
 | some new=>if new=[] then some (cW,H) else if new.length * by'≤cg then some (.cH r 0 new.length none,({ r with k:=0},some ⟨z,new,true,false⟩) :: H) else none
 | none=>none
@[simp] theorem Lx(z by':Nat)(H:ab)(r:Ref)(new:List AV):XL z by' H r (some new)=if new=[] then some (cW,H) else if new.length * by'≤cg then some (.cH r 0 new.length none,({ r with k:=0},some ⟨z,new,true,false⟩) :: H) else none:=id rfl
@[simp] theorem TB{P:Program}{t t':TypeId}(hT:nK P t=true)(hA:CQ P t'=true)(wk:Bool)(H:ab)(r:Ref)(x:AV)(hx:(mZ (lB P t) H.get x).isSome=true) :
 cQ P wk H r (some t) (some t') cW x=XL (lB P t) (p9 P t) H r (mZ (lB P t) H.get x):=by
 obtain⟨new,hn⟩:=Option.isSome_iff_exists.1 hx
 rw[hn,Lx]
 have hx:=sC hn
 unfold nK at hT
 by_cases hne:new=[]
 ·rw[if_pos hne]
  subst hne
  obtain⟨e,zz,h1,h2,h3,h4,h5,h6,h7,h8⟩:=jj hT
  have hnew:=hx.mm hT h1
  unfold CQ at hA
  simp only[Bool.and_eq_true,Bool.not_eq_true']at hA
  have hun:(P.underlying t').isNone=false:=by cases h:P.underlying t' with | none=>rw[h]at hA;simp at hA | some d=>rfl
  have hc : ¬((P.underlying t').isNone=true∨isInt P t'≠isNum x):=by rw[hun,hA.2,hx.num];simp
  have hd : ¬(lB P t≠lB P t∨lB P t=0∨p9 P t=0∨zz.cells.length≠lB P t):=by simp[h5,h7,h8]
  simp only[cQ,gH,Option.bind_some,h1,Option.map_some,Option.getD_some,if_neg hc,h2,h3,h4,hnew,if_neg hd,if_true]
  rfl
 ·rw[if_neg hne]
  split
  ·rename_i hb;exact Og hT hA wk H r hx hne hb
  ·rename_i hb
   obtain⟨e,zz,h1,h2,h3,h4,h5,h6,h7,h8⟩:=jj hT
   have hnew:=hx.mm hT h1
   unfold CQ at hA
   simp only[Bool.and_eq_true,Bool.not_eq_true']at hA
   have hun:(P.underlying t').isNone=false:=by cases h:P.underlying t' with | none=>rw[h]at hA;simp at hA | some d=>rfl
   have hc : ¬((P.underlying t').isNone=true∨isInt P t'≠isNum x):=by rw[hun,hA.2,hx.num];simp
   have hd : ¬(lB P t≠lB P t∨lB P t=0∨p9 P t=0∨zz.cells.length≠lB P t):=by simp[h5,h7,h8]
   have hd' : ¬(lB P t≠lB P t∨lB P t=0∨p9 P t=0∨new=[]∨zz.cells.length≠lB P t):=by simp[h5,h7,h8,hne]
   have hqa:gH P H.get r (some t) (some t') cW x=none:=by
    simp only[gH,Option.bind_some,h1,Option.map_some,Option.getD_some,if_neg hc,h2,h3,h4,hnew,if_neg hd,if_neg hne,if_neg hb]
   simp only[cQ,hqa,D6]
   cases wk
   ·rfl
   ·simp only[Gv,kf,Option.bind_some,h1,Option.map_some,Option.getD_some,if_neg hc,h2,h3,h4,hnew,if_neg hd']
def Zs(draw:Bool)(z:Nat)(zz:AV)(H:ab)(r:Ref)(n:Nat)(ps:List (Nat × AV)):dy:=match fZ (List.replicate n zz) ps with
 | some es=>if draw then some (.cw z es (some n),H) else some (.cH r 0 n (some n),({ r with k:=0},some ⟨z,es,true,false⟩) :: H)
 | none=>none
@[simp] theorem Zr{P:Program}{t:TypeId}(hT:nK P t=true)(draw wk:Bool)(H:ab)(r:Ref)(n:Nat)(ps:List (Nat × AV))(hsz:n * lB P t≤16777216)(hv:eR H.get ps=some ps)(hrf:cb H.get (ps.map (·.2))=[])
 (hc:ps.all (fun p=>p.2.cells.length == lB P t&&p.2.cells.all AV.one)=true) (hf:(fZ (List.replicate n (iG P t)) ps).isSome=true) :
 eX P draw wk H r t n (some ps)=Zs draw (lB P t) (iG P t) H r n ps:=by
 obtain⟨es,hf⟩:=Option.isSome_iff_exists.1 hf
 unfold nK at hT
 obtain⟨e,zz,h1,h2,h3,h4,h5,h6,h7,h8⟩:=jj hT
 have hz:(dW P t).bind (eD P)=some zz:=by rw[h1];exact h4
 have hz':iG P t=zz:=by unfold iG;rw[hz];rfl
 rw[hz']at hf ⊢
 rw[N8 hT hsz hv hrf hc hz hf]
 unfold Zs
 rw[hf]
@[simp] theorem OK(es:List AV):fZ es []=some es:=id rfl
@[simp] theorem NQ(es:List AV)(i:Nat)(v:AV)(ps:List (Nat × AV)):fZ es ((i,v) :: ps)=if i<es.length then fZ (es.set i v) ps else none:=id rfl
@[simp] theorem XG(draw:Bool)(z:Nat)(zz:AV)(H:ab)(r:Ref)(n:Nat)(ps:List (Nat × AV)):Zs draw z zz H r n ps=(fZ (List.replicate n zz) ps).bind fun es=>if draw then some (.cw z es (some n),H) else some (.cH r 0 n (some n),({ r with k:=0},some ⟨z,es,true,false⟩) :: H):=by
 unfold Zs;cases fZ (List.replicate n zz) ps<;>rfl
@[simp] theorem OC(g:de):eR g []=some []:=id rfl
@[simp] theorem LS(g:de)(i:Nat)(x:AV)(ps:List (Nat × AV)):eR g ((i,x) :: ps)=(view g depth x).bind fun y=>(eR g ps).map ((i,y) :: ·):=by
 unfold eR
 rw[GI]
 dsimp only
 cases view g depth x<;>rfl
def Xb(z o n:Nat)(k:Int)(r:Ref)(b:Option bM):gz:=match b with
 | some b=>if 0≤k∧k<n∧z=b.esz then some (.ptr r (o+k.toNat) 0,[]) else none
 | none=>none
@[simp] theorem US(z o n:Nat)(k:Int)(r:Ref)(b:bM):Xb z o n k r (some b)=if 0≤k∧k<n∧z=b.esz then some (.ptr r (o+k.toNat) 0,[]) else none:=id rfl
@[simp] theorem LG{P:Program}{t:TypeId}(h:nK P t=true)(g:de)(r:Ref)(o n:Nat)(c:Option Nat)(kd:IntKind)(k:Int) :
 aH P g t (some (.cH r o n c)) (some (.v (.int kd k)))=Xb (lB P t) o n k r (g r):=by
 unfold nK at h
 obtain⟨e,zz,h1,h2,h3,h4,h5,h6,h7,h8⟩:=jj h
 simp only[aH,Option.bind_some,intOf,h1,h2]
 cases g r<;>rfl
def Ia(H:ab)(r:Ref)(o:Option bM)(n i j:Nat)(x:AV):dy:=match o with
 | some ⟨z,es,true,false⟩=>if x.cells.length=n∧x.cells.all AV.one=true then (hX es i j x.cells).map fun es=>(AV.undef,H.put r (some ⟨z,es,true,false⟩)) else none
 | some ⟨z,es,false,false⟩=>if x.cells.length=n∧x.cells.all AV.one=true then (hX es i j x.cells).map fun es=>(AV.undef,H.put r (some ⟨z,es,false,false⟩)) else none
 | _=>none
@[simp] theorem Br(H:ab)(r:Ref)(z:Nat)(es:List AV)(n i j:Nat)(x:AV):Ia H r (some ⟨z,es,true,false⟩) n i j x=if x.cells.length=n∧x.cells.all AV.one=true then (hX es i j x.cells).map fun es=>(AV.undef,H.put r (some ⟨z,es,true,false⟩)) else none:=id rfl
@[simp] theorem RY(H:ab)(r:Ref)(z:Nat)(es:List AV)(n i j:Nat)(x:AV):Ia H r (some ⟨z,es,false,false⟩) n i j x=if x.cells.length=n∧x.cells.all AV.one=true then (hX es i j x.cells).map fun es=>(AV.undef,H.put r (some ⟨z,es,false,false⟩)) else none:=id rfl
def Ie(H:ab)(o:Option bM)(x:AV):Prop:=match o with
 | some ⟨_,_,false,false⟩=>True
 | some ⟨_,_,true,false⟩=>view H.get depth x=some x∧aG H.get depth x=[]
 | _=>False
@[simp] theorem R0(H:ab)(z:Nat)(es:List AV)(x:AV):Ie H (some ⟨z,es,false,false⟩) x=True:=id rfl
@[simp] theorem R1(H:ab)(z:Nat)(es:List AV)(x:AV):Ie H (some ⟨z,es,true,false⟩) x=(view H.get depth x=some x∧aG H.get depth x=[]):=id rfl
theorem LM{P:Program}{t:TypeId}(hn:(aU P t).isSome=true)(H:ab)(r:Ref)(i j:Nat)(x:AV)(hf:Ie H (H.get r) x) :
 aW P H t (some (.ptr r i j)) (some x)=Ia H r (H.get r) ((aU P t).getD 0) i j x:=by
 obtain⟨n,hn⟩:=Option.isSome_iff_exists.1 hn
 simp only[aW,hn,Option.getD_some]
 cases hr:H.get r with
 | none=>rw[hr]at hf;exact hf.elim
 | some b =>
  rw[hr]at hf
  obtain⟨z,es,arr,jg⟩:=b
  cases jg with
  | true=>cases arr<;>exact hf.elim
  | false =>
   cases arr with
   | false=>simp only[and_true,Bool.false_eq_true,if_false];rfl
   | true =>
    obtain⟨h1,h2⟩:=hf
    simp only[and_true,if_true,h1,h2,List.not_mem_nil,if_false,cC]
    by_cases hc:x.cells.length=n∧x.cells.all AV.one=true
    ·rw[if_pos hc,Br,if_pos hc,if_pos hc.2]
    ·rw[if_neg hc,Br,if_neg hc]
theorem Fy{α:Type}(f:α→AV)(l:List α)(i j:Nat)(new:List AV):hX (l.map f) i j new=(l[i]?).bind fun a=>(oh (f a) j new).map fun e'=>(l.map f).set i e':=by
 unfold hX
 rw[List.getElem?_map]
 cases l[i]?<;>rfl
@[simp] theorem Oz(cs:List AV)(j:Nat)(new:List AV):oh (.agg cs) j new=if j+new.length≤cs.length then some (.agg (patch cs j new)) else none:=id rfl
end Go.Ab
namespace Go.Ab
@[simp] theorem Sj(f:Fn)(a b:List AV):sf f (some a) (some b)=some (.fn f a b,[]):=id rfl
attribute [simp] LM
@[simp] theorem Te(place:Nat→Option (Nat × Nat))(cells:List AV):kz place cells []=some cells:=id rfl
def RF(place:Nat→Option (Nat × Nat))(cells:List AV)(v:AV)(rest:List (Nat × AV))(p:Option (Nat × Nat)):Option (List AV):=match p with
 | none=>none
 | some (off,size)=>if v.cells.length=size∧off+size≤cells.length then kz place (patch cells off v.cells) rest else none
@[simp] theorem RG(place:Nat→Option (Nat × Nat))(cells:List AV)(i:Nat)(v:AV)(rest:List (Nat × AV)):kz place cells ((i,v) :: rest)=RF place cells v rest (place i):=id rfl
@[simp] theorem Td(place:Nat→Option (Nat × Nat))(cells:List AV)(v:AV)(rest:List (Nat × AV))(off size:Nat):RF place cells v rest (some (off,size))=if v.cells.length=size∧off+size≤cells.length then kz place (patch cells off v.cells) rest else none:=id rfl
@[simp] theorem Wy(r':Ref)(b':Option bM)(H:ab)(r:Ref)(b:Option bM):ab.put ((r',b') :: H) r b=if r'=r then (r,b) :: H else (r',b') :: ab.put H r b:=id rfl
@[simp] theorem O9{α β:Type}(f:α→β)(l:List α):List.take l.length (l.map f)=l.map f:=List.take_of_length_le (by simp)
def Ou(z:Nat)(es:List AV)(y:AV):Prop:=(y=cW∧es=[])∨y = .fsl z es none∨(y = .fsl z [] (some 0)∧es=[])
theorem PS(z:Nat):Ou z [] cW := .inl ⟨rfl,rfl⟩
@[simp] theorem XO(z:Nat)(es:List AV):Ou z es cW↔es=[]:=by
 constructor
 ·rintro(⟨_,e⟩ | e | ⟨e,_⟩)
  ·exact e
  ·cases e
  ·cases e
 ·rintro rfl;exact PS z
@[simp] theorem XP(z:Nat)(es es':List AV):Ou z es (.fsl z es' none)↔es=es':=by
 constructor
 ·rintro(⟨e,_⟩ | e | ⟨e,_⟩)
  ·cases e
  ·cases e;rfl
  ·cases e
 ·rintro rfl;exact .inr (.inl rfl)
@[simp] theorem Vf(z:Nat)(es:List AV):Ou z es (.fsl z [] (some 0))↔es=[]:=by
 constructor
 ·rintro(⟨e,_⟩ | e | ⟨_,e⟩)
  ·cases e
  ·cases e
  ·exact e
 ·rintro rfl;exact .inr (.inr ⟨rfl,rfl⟩)
theorem HD{P:Program}{t t':TypeId}(hT:nK P t=true)(hA:CQ P t'=true)(wk:Bool)(H:ab)(r q:Ref)(n k:Nat)(x:AV){es new:List AV}{fz:Bool}(hq:H.get q=some ⟨lB P t,es,true,fz⟩)(hx:mZ (lB P t) H.get x=some new)(hn:n=es.length)(hk:new=[]∨((es.length+new.length) * p9 P t≤cg∧k<es.length+new.length)) :
 cQ P wk H r (some t) (some t') (.cH q 0 n (some k)) x=if new=[] then some (.cH q 0 n (some k),H) else some (.cH r 0 (es.length+new.length) none,({ r with k:=0},some ⟨lB P t,es++new,true,false⟩) :: H):=by
 subst hn
 have hx:=sC hx
 unfold nK at hT
 obtain⟨e,zz,h1,h2,h3,h4,h5,h6,h7,h8⟩:=jj hT
 have hnew:=hx.mm hT h1
 unfold CQ at hA
 simp only[Bool.and_eq_true,Bool.not_eq_true']at hA
 have hun:(P.underlying t').isNone=false:=by cases h:P.underlying t' with | none=>rw[h]at hA;simp at hA | some d=>rfl
 have hc : ¬((P.underlying t').isNone=true∨isInt P t'≠isNum x):=by rw[hun,hA.2,hx.num];simp
 have hd : ¬(lB P t≠lB P t∨lB P t=0∨p9 P t=0∨zz.cells.length≠lB P t):=by simp[h5,h7,h8]
 by_cases hne:new=[]
 ·subst hne
  simp only[cQ,gH,Option.bind_some,h1,Option.map_some,Option.getD_some,if_neg hc,h2,h3,h4,hnew,if_neg hd,hq,if_true]
  simp
 ·obtain⟨hb,hk⟩:=hk.resolve_left hne
  simp only[cQ,gH,Option.bind_some,h1,Option.map_some,Option.getD_some,if_neg hc,h2,h3,h4,hnew,if_neg hd,hq,if_neg hne]
  simp only[ne_eq,not_true_eq_false,Bool.true_eq_false,or_self,if_false,Nat.zero_add,Nat.le_refl,hk,hb,and_self,if_true,List.drop_zero,List.take_length]
  rfl
def lQ(z by' n:Nat)(wk:Bool)(c:Option Nat)(b:Option bM)(new:Option (List AV)):Prop:=match b,new with
 | some ⟨z',es,true,_⟩,some new=>z'=z∧n=es.length∧(new=[]∨((es.length+new.length) * by'≤cg∧match c with | none=>wk=true | some k=>k<es.length+new.length))
 | _,_=>False
theorem bx(z by' n:Nat)(wk:Bool)(z':Nat)(es new:List AV)(fz:Bool):lQ z by' n wk none (some ⟨z',es,true,fz⟩) (some new)=(z'=z∧n=es.length∧(new=[]∨((es.length+new.length) * by'≤cg∧wk=true))):=id rfl
theorem bA(z by' n:Nat)(wk:Bool)(k z':Nat)(es new:List AV)(fz:Bool):lQ z by' n wk (some k) (some ⟨z',es,true,fz⟩) (some new)=(z'=z∧n=es.length∧(new=[]∨((es.length+new.length) * by'≤cg∧k<es.length+new.length))):=id rfl
def Qz(z:Nat)(H:ab)(q r:Ref)(n:Nat)(c:Option Nat)(b:Option bM)(new:Option (List AV)):dy:=match b,new with
 | some b,some []=>some (.cH q 0 n c,H)
 | some b,some new=>match c with
  | none=>some (.cH ⟨q.d,q.t,H.gen q.d q.t,0⟩ 0 (b.es.length+new.length) none,(⟨q.d,q.t,H.gen q.d q.t,0⟩,some ⟨z,b.es++new,true,b.jg⟩) :: H.put q none)
  | some _=>some (.cH r 0 (b.es.length+new.length) none,({ r with k:=0},some ⟨z,b.es++new,true,false⟩) :: H)
 | _,_=>none
@[simp] theorem Oh(z:Nat)(H:ab)(q r:Ref)(n:Nat)(c:Option Nat)(b:bM):Qz z H q r n c (some b) (some [])=some (.cH q 0 n c,H):=id rfl
theorem dx(z:Nat)(H:ab)(q r:Ref)(n:Nat)(b:bM)(new:List AV)(hn:new≠[]):Qz z H q r n none (some b) (some new)=some (.cH ⟨q.d,q.t,H.gen q.d q.t,0⟩ 0 (b.es.length+new.length) none,(⟨q.d,q.t,H.gen q.d q.t,0⟩,some ⟨z,b.es++new,true,b.jg⟩) :: H.put q none):=by
 cases new with
 | nil=>exact(hn rfl).elim
 | cons _ _=>rfl
theorem dw(z:Nat)(H:ab)(q r:Ref)(n k:Nat)(b:bM)(new:List AV)(hn:new≠[]):Qz z H q r n (some k) (some b) (some new)=some (.cH r 0 (b.es.length+new.length) none,({ r with k:=0},some ⟨z,b.es++new,true,false⟩) :: H):=by
 cases new with
 | nil=>exact(hn rfl).elim
 | cons _ _=>rfl
theorem bQ{P:Program}{t t':TypeId}(hT:nK P t=true)(hA:CQ P t'=true)(wk:Bool)(H:ab)(r q:Ref)(n:Nat)(c:Option Nat)(x:AV)(hf:lQ (lB P t) (p9 P t) n wk c (H.get q) (mZ (lB P t) H.get x)) :
 cQ P wk H r (some t) (some t') (.cH q 0 n c) x=Qz (lB P t) H q r n c (H.get q) (mZ (lB P t) H.get x):=by
 cases hq:H.get q with
 | none=>rw[hq]at hf;exact hf.elim
 | some b =>
  obtain⟨z',es,arr,fz⟩:=b
  cases hx:mZ (lB P t) H.get x with
  | none=>rw[hq,hx]at hf;cases arr<;>exact hf.elim
  | some new =>
   rw[hq,hx]at hf
   cases arr with
   | false=>exact hf.elim
   | true =>
    obtain⟨rfl,rfl,hf⟩:=hf
    cases c with
    | none =>
     by_cases hn:new=[]
     ·subst hn
      rw[Oh]
      have hx':=sC hx
      unfold nK at hT
      obtain⟨e,zz,h1,h2,h3,h4,h5,h6,h7,h8⟩:=jj hT
      have hnew:=hx'.mm hT h1
      unfold CQ at hA
      simp only[Bool.and_eq_true,Bool.not_eq_true']at hA
      have hun:(P.underlying t').isNone=false:=by cases h:P.underlying t' with | none=>rw[h]at hA;simp at hA | some d=>rfl
      have hc : ¬((P.underlying t').isNone=true∨isInt P t'≠isNum x):=by rw[hun,hA.2,hx'.num];simp
      have hd : ¬(lB P t≠lB P t∨lB P t=0∨p9 P t=0∨zz.cells.length≠lB P t):=by simp[h5,h7,h8]
      simp only[cQ,gH,Option.bind_some,h1,Option.map_some,Option.getD_some,if_neg hc,h2,h3,h4,hnew,if_neg hd,hq,if_true]
      simp
     ·obtain⟨hb,rfl⟩:=hf.resolve_left hn
      rw[dx _ _ _ _ _ _ _ hn]
      exact Of (by exact hT) hA H r q _ (sC hx) hq rfl hn hb
    | some k =>
     rw[HD hT hA wk H r q _ k x hq hx rfl hf]
     split
     ·rename_i hn;subst hn;rfl
     ·rename_i hn;rw[dw _ _ _ _ _ _ _ _ hn]
theorem Sl.Nj{z:Nat}{es:List AV}{x:AV}(h:Sl z es x):x=cW∧es=[] ∨∃c,x = .cw z es c:=by
 rcases h with h | ⟨c,h,_⟩
 ·exact .inl h
 ·exact .inr ⟨c,h⟩
@[simp] theorem PO(P:Program)(t:TypeId)(xo yo:Operand)(h:(dW P t).isSome=true)(z:Nat)(es:List AV)(c:Option Nat):aE P .eql t xo yo (some (.cw z es c)) (some cW)=some (aB false,[]):=by
 unfold dW at h
 split at h
 ·rename_i e he
  simp[aE,GU,mj,he]
 ·cases h
def Xk(b:Option bM):Bool:=match b with | some b=>b.jg | none=>false
@[simp] theorem UU(b:bM):Xk (some b)=b.jg:=id rfl
@[simp] theorem TE(g:de):ib g []=true:=id rfl
@[simp] theorem RM(g:de)(r:Ref)(rs:List Ref):ib g (r :: rs)=(Xk (g r)&&ib g rs):=id rfl
theorem bE(H:ab)(r:Ref)(refs:List Ref)(y:AV)(h1:flat depth y=false)(h2:ib H.get refs=false):u5 true H r refs (some y)=some ((aN r depth y []).1,keyed r 0 (aN r depth y []).2 (cC H refs)):=by
 simp only[u5,h1,h2,Bool.or_self,Bool.false_eq_true,if_false,if_true]
def nN:AV→AV
 | .cw z [] _ => .fsl z [] (some 0)
 | .cw z es _ => .fsl z es none
 | x=>x
@[simp] theorem N3(x:Value):nN (.v x) = .v x:=id rfl
@[simp] theorem Ja(z:Nat)(c:Option Nat):nN (.cw z [] c) = .fsl z [] (some 0):=id rfl
theorem oF(z:Nat){es:List AV}(c:Option Nat)(h:es≠[]):nN (.cw z es c) = .fsl z es none:=by
 cases es with
 | nil=>exact(h rfl).elim
 | cons _ _=>rfl
theorem qb{z:Nat}{es:List AV}{x:AV}(h:Sl z es x):Ou z es (nN x):=by
 rcases h with ⟨rfl,rfl⟩ | ⟨c,rfl,_⟩
 ·simp
 ·by_cases he:es=[]
  ·subst he;simp
  ·rw[oF z c he];simp
def iu(z:Nat)(es:List AV)(H:ab)(x y:AV):Prop:=(x=y∧Sl z es y) ∨∃r c fz,x = .cH r 0 es.length c∧H.get r=some ⟨z,es,true,fz⟩∧y = .cw z es c∧es.length≤c.getD es.length
theorem iu.sl{z:Nat}{es:List AV}{H:ab}{x y:AV}(h:iu z es H x y):Sl z es y:=by
 rcases h with ⟨_,h⟩ | ⟨r,c,fz,_,_,rfl,h⟩
 ·exact h
 ·exact .inr ⟨c,rfl,h⟩
theorem iu.view{z:Nat}{es:List AV}{H:ab}{x y:AV}(h:iu z es H x y)(n:Nat):Ab.view H.get (n+1) x=some y:=by
 rcases h with ⟨rfl,h⟩ | ⟨r,c,fz,rfl,hr,rfl,_⟩
 ·exact h.view _ _
 ·rw[DI hr rfl]
theorem iu.len{z:Nat}{es:List AV}{H:ab}{x y:AV}(h:iu z es H x y):qT x=some es.length:=by
 rcases h with ⟨rfl,h⟩ | ⟨r,c,fz,rfl,hr,rfl,_⟩
 ·exact h.len
 ·rfl
theorem iu.cells{z:Nat}{es:List AV}{H:ab}{x y:AV}(h:iu z es H x y):x.cells=[x]∧x.one=true:=by
 rcases h with ⟨rfl,h⟩ | ⟨r,c,fz,rfl,hr,rfl,_⟩
 ·exact h.cells
 ·exact⟨rfl,rfl⟩
theorem iu.put{z:Nat}{es:List AV}{H:ab}{x y:AV}(h:iu z es H x y){q:Ref}(hq:x.at?≠some q)(b:Option bM):iu z es (H.put q b) x y:=by
 rcases h with h | ⟨r,c,fz,rfl,hr,rfl,hc⟩
 ·exact .inl h
 ·refine .inr ⟨r,c,fz,rfl,?_,rfl,hc⟩
  rw[ab.get_put,if_neg (by rintro rfl;exact hq rfl),hr]
theorem iu.cons{z:Nat}{es:List AV}{H:ab}{x y:AV}(h:iu z es H x y)(hF:Fr H)(d t:Nat)(b:Option bM):iu z es ((⟨d,t,H.gen d t,0⟩,b) :: H) x y:=by
 rcases h with h | ⟨r,c,fz,rfl,hr,rfl,hc⟩
 ·exact .inl h
 ·refine .inr ⟨r,c,fz,rfl,?_,rfl,hc⟩
  rw[ab.o4,if_neg (pC hF (by rw[hr];rfl) d t 0),hr]
theorem iu.r{z:Nat}{es:List AV}{H:ab}{x y:AV}(h:iu z es H x y):qT x=some es.length∧(∀n,Ab.view H.get (n+1) x=some y)∧x.cells=[x]∧x.one=true:=⟨h.len,h.view,h.cells⟩
theorem iu.of{z:Nat}{es:List AV}{x:AV}(h:Sl z es x)(H:ab):iu z es H x x := .inl ⟨rfl,h⟩
def LC(z:Nat)(es:List AV)(H:ab)(x:AV)(r:Ref):Prop:=(x=cW∧es=[]) ∨∃c,x = .cH r 0 es.length c∧H.get r=some ⟨z,es,true,false⟩
theorem LC.len{z:Nat}{es:List AV}{H:ab}{x:AV}{r:Ref}(h:LC z es H x r):qT x=some es.length:=by
 rcases h with ⟨rfl,rfl⟩ | ⟨c,rfl,_⟩<;>rfl
theorem LC.cells{z:Nat}{es:List AV}{H:ab}{x:AV}{r:Ref}(h:LC z es H x r):x.cells=[x]∧x.one=true:=by
 rcases h with ⟨rfl,rfl⟩ | ⟨c,rfl,_⟩<;>exact⟨rfl,rfl⟩
theorem LC.cH{z:Nat}{es:List AV}{H:ab}{x:AV}{r:Ref}(h:LC z es H x r){k:Nat}(hk:k<es.length) : ∃c,x = .cH r 0 es.length c∧H.get r=some ⟨z,es,true,false⟩:=by
 rcases h with ⟨rfl,rfl⟩ | h
 ·simp at hk
 ·exact h
def CL(ts:List Nat)(z:Nat)(es:List AV)(H:ab)(x:AV):Prop:=(x=cW∧es=[]) ∨∃t g,t∈ts∧x = .cH ⟨0,t,g,0⟩ 0 es.length none∧H.get ⟨0,t,g,0⟩=some ⟨z,es,true,false⟩
theorem iu.live{z:Nat}{es:List AV}{H:ab}{x y:AV}(h:iu z es H x y){r:Ref}(hr:x.at?=some r):(H.get r).isSome=true:=by
 rcases h with ⟨rfl,h⟩ | ⟨r',c,fz,rfl,hr',rfl,_⟩
 ·rcases h with ⟨rfl,_⟩ | ⟨c,rfl,_⟩<;>cases hr
 ·cases hr;rw[hr'];rfl
theorem iu.mono{z:Nat}{es:List AV}{H H':ab}{x y:AV}(h:iu z es H x y)(hk : ∀r,x.at?=some r→H'.get r=H.get r):iu z es H' x y:=by
 rcases h with h | ⟨r',c,fz,rfl,hr',rfl,hc⟩
 ·exact .inl h
 ·exact .inr ⟨r',c,fz,rfl,by rw[hk r' rfl,hr'],rfl,hc⟩
theorem ae{H:ab}(hF:Fr H){q:Ref}(h:(H.get q).isSome=true)(d t k:Nat):((⟨d,t,H.gen d t+1,k⟩:Ref)=q)=False :=
 eq_false fun e=>by subst e;rw[hF _ _ _ _ (Nat.le_succ _)]at h;cases h
theorem af{H:ab}(hF:Fr H){q:Ref}(h:(H.get q).isSome=true)(d t k:Nat):(q=(⟨d,t,H.gen d t+1,k⟩:Ref))=False :=
 eq_false fun e=>by subst e;rw[hF _ _ _ _ (Nat.le_succ _)]at h;cases h
theorem ao{H:ab}(hF:Fr H)(d t k:Nat):H.get ⟨d,t,H.gen d t+1,k⟩=none:=hF _ _ _ _ (Nat.le_succ _)
theorem an{H:ab}(hF:Fr H){d t g:Nat}(k:Nat)(hg:g=H.gen d t∨g+1=H.gen d t)(b:Option bM):Fr ((⟨d,t,g,k⟩,b) :: H):=by
 intro d' t' g' k' h
 rw[ab.G6]at h
 rw[ab.o4]
 by_cases he:d=d'∧t=t'
 ·obtain⟨rfl,rfl⟩:=he
  rw[if_pos ⟨rfl,rfl⟩]at h
  rw[if_neg (by intro e;injection e;omega)]
  exact hF _ _ _ _ (by omega)
 ·rw[if_neg he]at h
  rw[if_neg (by intro e;injection e with e1 e2;exact he ⟨e1,e2⟩)]
  exact hF _ _ _ _ h
end Go.Ab
namespace Go.Ab
def JT(by':Nat)(es:List AV)(k:Nat)(new:Option (List AV)):Prop:=match new with
 | some new=>new=[]∨(k<es.length+new.length∧(es.length+new.length) * by'≤cg)
 | none=>False
theorem aY(by':Nat)(es:List AV)(k:Nat)(new:List AV):JT by' es k (some new)=(new=[]∨(k<es.length+new.length∧(es.length+new.length) * by'≤cg)):=id rfl
def SY(z:Nat)(H:ab)(r:Ref)(es:List AV)(k:Nat)(new:Option (List AV)):dy:=match new with
 | some []=>some (.cw z es (some k),H)
 | some new=>some (.cH r 0 (es.length+new.length) none,({ r with k:=0},some ⟨z,es++new,true,false⟩) :: H)
 | none=>none
@[simp] theorem NC(z:Nat)(H:ab)(r:Ref)(es:List AV)(k:Nat):SY z H r es k (some [])=some (.cw z es (some k),H):=id rfl
theorem ct(z:Nat)(H:ab)(r:Ref)(es:List AV)(k:Nat)(new:List AV)(hn:new≠[]):SY z H r es k (some new)=some (.cH r 0 (es.length+new.length) none,({ r with k:=0},some ⟨z,es++new,true,false⟩) :: H):=by
 cases new with
 | nil=>exact(hn rfl).elim
 | cons _ _=>rfl
theorem bT{P:Program}{t t':TypeId}(hT:nK P t=true)(hA:CQ P t'=true)(wk:Bool)(H:ab)(r:Ref)(z k:Nat)(es:List AV)(x:AV)(hz:z=lB P t)(hf:JT (p9 P t) es k (mZ (lB P t) H.get x)) :
 cQ P wk H r (some t) (some t') (.cw z es (some k)) x=SY z H r es k (mZ (lB P t) H.get x):=by
 subst hz
 cases hx:mZ (lB P t) H.get x with
 | none=>rw[hx]at hf;exact hf.elim
 | some new =>
  rw[hx]at hf
  have hx':=sC hx
  unfold nK at hT
  obtain⟨e,zz,h1,h2,h3,h4,h5,h6,h7,h8⟩:=jj hT
  have hnew:=hx'.mm hT h1
  unfold CQ at hA
  simp only[Bool.and_eq_true,Bool.not_eq_true']at hA
  have hun:(P.underlying t').isNone=false:=by cases h:P.underlying t' with | none=>rw[h]at hA;simp at hA | some d=>rfl
  have hc : ¬((P.underlying t').isNone=true∨isInt P t'≠isNum x):=by rw[hun,hA.2,hx'.num];simp
  have hd : ¬(lB P t≠lB P t∨lB P t=0∨p9 P t=0∨zz.cells.length≠lB P t):=by simp[h5,h7,h8]
  by_cases hn:new=[]
  ·subst hn
   rw[NC]
   simp only[cQ,gH,Option.bind_some,h1,Option.map_some,Option.getD_some,if_neg hc,h2,h3,h4,hnew,if_neg hd,if_neg (show ¬(lB P t≠lB P t) by simp),if_true]
   rfl
  ·obtain⟨hk,hb⟩:=hf.resolve_left hn
   rw[ct _ _ _ _ _ _ hn]
   simp only[cQ,gH,Option.bind_some,h1,Option.map_some,Option.getD_some,if_neg hc,h2,h3,h4,hnew,if_neg hd,if_neg (show ¬(lB P t≠lB P t) by simp),if_neg hn,if_pos (show k<es.length+new.length∧(es.length+new.length) * p9 P t≤cg from⟨hk,hb⟩)]
   rfl
end Go.Ab
namespace Go.Ab
@[simp] theorem UT(n:Nat)(h:n<9223372036854775808):IntKind.i64.wrap (no_index (OfNat.ofNat n):Int)=OfNat.ofNat n:=by
 show IntKind.i64.wrap (n:Int)=n
 exact IntWalk.i64_in _ (by omega)
@[simp] theorem XI(len:Nat)(cap:Option Nat)(lo hi:Option Int):bounds len cap lo hi none=if 0≤lo.getD 0∧lo.getD 0≤hi.getD len∧hi.getD len≤len then some ((lo.getD 0).toNat,(hi.getD len).toNat,cap.map (· - (lo.getD 0).toNat)) else none:=id rfl
@[simp] theorem Wj(k:Nat):min k IntKind.i64.bits=min k 64:=id rfl
@[simp] theorem XM(l:List (AV × AV))(st bs:List AV)(H:ab):kC l st bs H↔(l.all fun p=>nA p.1 p.2)=true∧st.all (rE H)=true∧bs.all bsV=true:=Iff.rfl
@[simp] theorem Uf(r:Ref)(i j:Nat)(r':Ref)(i' j':Nat):nA (.ptr r i j) (.ptr r' i' j') = !decide (r=r'):=by
 unfold nA;simp[gG]
@[simp] theorem Ue(v:Value)(x:AV):nA x (.v v)=true:=by
 unfold nA;cases gG x<;>rfl
def HZ(o:Option bM):Bool:=match o with
 | some b => !b.arr
 | none=>false
@[simp] theorem QO(b:bM):HZ (some b) = !b.arr:=id rfl
@[simp] theorem Wi(H:ab)(r:Ref)(i j:Nat):rE H (.ptr r i j)=HZ (H.get r):=by
 cases h:H.get r<;>simp[rE,HZ,h]
end Go.Ab
namespace Go.Ab
def be:Nat→Int→List UInt8
 | 0,_=>[]
 | k+1,n=>be k (n / 256)++[u8 n]
def Zz(a:Int)(l:List UInt8):Int:=l.foldl (fun a b=>256 * a+(b.toNat:Int)) a
def val(l:List UInt8):Int:=Zz 0 l
@[simp] theorem Oc(k:Nat) : ∀n,(be k n).length=k:=by
 induction k with
 | zero=>intro n;rfl
 | succ k ih=>intro n;simp[be,ih]
@[simp] theorem Zu(n:Int):be 0 n=[]:=id rfl
theorem Ft(k:Nat) : ∀n:Int,be (k+1) n=u8 (n / 256 ^ k) :: be k n:=by
 induction k with
 | zero=>intro n;simp[be]
 | succ k ih =>
  intro n
  rw[be,ih,be]
  rw[Int.ediv_ediv_of_nonneg (by omega),Int.pow_succ,Int.mul_comm (256 ^ k)]
  simp
@[simp] theorem Tz(k:Nat)(n:Int):be k n=[]↔k=0:=by
 rw[←List.length_eq_zero_iff,Oc]
theorem Ji(n:Int):be 4 n=[u8 (n / 16777216),u8 (n / 65536),u8 (n / 256),u8 n]:=by
 simp[Ft]
theorem aae(n:Int):be 7 n=[u8 (n / 281474976710656),u8 (n / 1099511627776),u8 (n / 4294967296),u8 (n / 16777216),u8 (n / 65536),u8 (n / 256),u8 n]:=by
 simp[Ft]
theorem eN(n:Int)(k:Nat):n.fdiv (no_index (OfNat.ofNat k))=n / OfNat.ofNat k:=Int.fdiv_eq_ediv_of_nonneg _ (Int.natCast_nonneg k)
def KT(z:Nat):List AV→AV
 | []=>cW
 | es => .cw z es none
theorem JH(z:Nat){es:List AV}(h:es≠[]):KT z es = .cw z es none:=by
 cases es with
 | nil=>exact(h rfl).elim
 | cons _ _=>rfl
theorem Sl.SX{z:Nat}{es:List AV}{x:AV}(h:Sl z es x)(he:es≠[]) : ∃c,x = .cw z es c∧es.length≤c.getD es.length:=by
 rcases h with ⟨_,rfl⟩ | ⟨c,h,hc⟩
 ·exact(he rfl).elim
 ·exact⟨c,h,hc⟩
def Sx(z:Nat)(b:Option bM)(q:gz):gz:=match b with
 | some b=>if z=b.esz then q else none
 | none=>none
@[simp] theorem UB(z:Nat)(b:bM)(q:gz):Sx z (some b) q=if z=b.esz then q else none:=id rfl
@[simp] theorem Sg{P:Program}{t:TypeId}(h:nK P t=true)(g:de)(r:Ref)(o n:Nat)(c:Option Nat)(lo hi mx:Option Int) :
 eS P g t (some (.cH r o n c)) (some lo) (some hi) (some mx)=Sx (lB P t) (g r) ((bounds n c lo hi mx).map fun p=>(.cH r (o+p.1) (p.2.1 - p.1) p.2.2,[])):=by
 unfold nK at h
 obtain⟨e,zz,h1,h2,h3,h4,h5,h6,h7,h8⟩:=jj h
 have hz:(dW P t).bind (aU P)=some (lB P t):=by rw[h1];exact h2
 unfold eS
 dsimp only
 rw[hz]
 cases g r with
 | none=>rfl
 | some b=>simp[Sx]
@[simp] theorem Tw(l:List UInt8):hU l=[]↔l=[]:=by simp[hU]
end Go.Ab
