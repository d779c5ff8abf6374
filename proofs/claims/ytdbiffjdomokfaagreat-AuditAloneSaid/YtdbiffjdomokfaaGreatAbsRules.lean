/-
  The arguments of a law: from what is read before the call to data. No statement of a seat is proved here.
  The shapes of the arguments' data, type by type. No statement of a seat is proved here.
  '==' of structs and arrays of bools, numbers and strings: cell by cell. No statement of a seat is proved here.
  More rules for the conditions: slices, strings, calls that answer slices, small slices. No statement of a seat is proved here.
  Boxes, fields, structs in the conditions; branches as ifs; calls as rules. No statement of a seat is proved here.
  Rules that let a simplifier go through calls, boxes and own slices by itself. No statement of a seat is proved here.
  Rules for a simplifier, on: what a call hands out as the caller's own, and what is behind a call. No statement of a seat is proved here.
  Rules for a simplifier, on: appends to data, bytes. No statement of a seat is proved here.
  More rules for the simplifier. No statement of a seat is proved here.
  Numbers as bytes, the highest first. No statement of a seat is proved here.
-/
import Derived.Test.YtdbiffjdomokfaaGreatAbsCond
import Derived.ChangeKeysEq
import Derived.Laws.Strings
set_option linter.unusedVariables false
set_option linter.unusedSimpArgs false
namespace Go.Ab
open Go.ChangeShapes Go.WideShapes Go.RowKit
def Hj(ag:Bool)(xs:List AV):AV:=match ag,xs with
 | false,[x]=>x
 | _,xs => .agg xs
def IA(S:List AV→Prop):Nat→List AV→Prop
 | 0,xs=>xs=[]
 | k+1,xs =>∃a b,xs=a++b∧S a∧IA S k b
def O9(S:TypeId→List AV→Prop):List Field→List AV→Prop
 | [],xs=>xs=[]
 | f :: fs,xs =>∃a b,xs=a++b∧S f.type a∧O9 S fs b
def xQ(P:Program):Nat→TypeId→List AV→Prop
 | 0,_,_=>False
 | n+1,t,xs=>match P.underlying t with
  | some .bool =>∃b,xs=[aB b]
  | some (.int k) =>∃i,(k.min≤i∧i≤k.max)∧xs=[.v (.int k i)]
  | some .string =>∃s:ByteArray,xs=[aS s]
  | some (.slice e)=>xs=[cP] ∨∃es:List (List AV),xs=[.cw (P.cellsOf e) (es.map (Hj ((dD P e).getD false))) none] ∧∀x∈es,xQ P n e x
  | some (.struct fs)=>O9 (xQ P n) fs.toList xs
  | some (.array k e)=>IA (xQ P n e) k xs
  | _=>False
def layout(P:Program):List Field→Nat→Option Nat
 | [],o=>some o
 | f :: fs,o=>if f.offset=o then layout P fs (o+P.cellsOf f.type) else none
def plain(P:Program):Nat→TypeId→Bool
 | 0,_=>false
 | n+1,t=>match P.underlying t with
  | some .bool | some (.int _) | some .string=>P.cellsOf t == 1
  | some (.slice e)=>P.cellsOf t == 1&&plain P n e&&decide (0<P.cellsOf e)
  | some (.struct fs)=>fs.toList.all (fun f=>plain P n f.type)&&layout P fs.toList 0 == some (P.cellsOf t)
  | some (.array k e)=>plain P n e&&P.cellsOf t == k * P.cellsOf e
  | _=>false
theorem xQ.facts{P:Program} : ∀(n:Nat)(t:TypeId)(xs:List AV),plain P n t=true→xQ P n t xs→xs.length=P.cellsOf t ∧∀x∈xs,x.one=true:=by
 intro n
 induction n with
 | zero=>intro t xs h;simp[plain]at h
 | succ n ih =>
  intro t xs hp hs
  unfold plain at hp
  unfold xQ at hs
  cases hu:P.underlying t with
  | none=>rw[hu]at hs;exact hs.elim
  | some d =>
   rw[hu]at hp hs
   cases d<;>dsimp only at hp hs<;>try (exact hs.elim)
   ·obtain⟨b,rfl⟩:=hs
    simp at hp;exact⟨by simp[hp],by simp[AV.one]⟩
   ·obtain⟨i,_,rfl⟩:=hs
    simp at hp;exact⟨by simp[hp],by simp[AV.one]⟩
   ·obtain⟨s,rfl⟩:=hs
    simp at hp;exact⟨by simp[hp],by simp[AV.one]⟩
   ·rename_i e
    simp only[Bool.and_eq_true,beq_iff_eq]at hp
    rw[hp.1.1]
    rcases hs with rfl | ⟨es,rfl,_⟩
    ·simp[AV.one]
    ·simp[AV.one]
   ·rename_i k e
    simp only[Bool.and_eq_true,beq_iff_eq]at hp
    rw[hp.2]
    have : ∀(k:Nat)(xs:List AV),IA (xQ P n e) k xs→xs.length=k * P.cellsOf e ∧∀x∈xs,x.one=true:=by
     intro k
     induction k with
     | zero=>intro xs h;simp only[IA]at h;subst h;simp
     | succ k ihk =>
      intro xs h
      obtain⟨a,b,rfl,ha,hb⟩:=h
      obtain⟨h1,h2⟩:=ih e a hp.1 ha
      obtain⟨h3,h4⟩:=ihk b hb
      refine⟨by rw[List.length_append,h1,h3,Nat.succ_mul];omega,fun x hx=>?_⟩
      rcases List.mem_append.1 hx with h | h
      ·exact h2 x h
      ·exact h4 x h
    exact this k xs hs
   ·rename_i fs
    simp only[Bool.and_eq_true,beq_iff_eq,List.all_eq_true]at hp
    have : ∀(l:List Field)(o:Nat)(xs:List AV),(∀f∈l,plain P n f.type=true)→O9 (xQ P n) l xs→(∀m,layout P l o=some m→o+xs.length=m) ∧∀x∈xs,x.one=true:=by
     intro l
     induction l with
     | nil=>intro o xs _ h;simp only[O9]at h;subst h;exact⟨fun m hm=>by simp[layout]at hm;simp[hm],by simp⟩
     | cons f l ihl =>
      intro o xs hl h
      obtain⟨a,b,rfl,ha,hb⟩:=h
      obtain⟨h1,h2⟩:=ih f.type a (hl f (List.mem_cons_self ..)) ha
      obtain⟨h3,h4⟩:=ihl (o+P.cellsOf f.type) b (fun f hf=>hl f (List.mem_cons_of_mem _ hf)) hb
      refine⟨fun m hm=>?_,fun x hx=>?_⟩
      ·unfold layout at hm
       split at hm
       ·have:=h3 m hm;rw[List.length_append,h1];omega
       ·cases hm
      ·rcases List.mem_append.1 hx with h | h
       ·exact h2 x h
       ·exact h4 x h
    obtain⟨h1,h2⟩:=this fs.toList 0 xs hp.1 hs
    exact⟨by have:=h1 _ hp.2;omega,h2⟩
theorem Jo{ag:Bool}{xs:List AV}(h1 : ∀x∈xs,x.one=true):(Hj ag xs).cells=xs:=by
 unfold Hj
 split
 ·rename_i x
  have:=h1 x (by simp)
  cases x<;>first | rfl | (simp[AV.one]at this)
 ·rfl
section
variable{H:Type}{enc:TypeId × Value→H}{P:Program}{w:World}{base:Nat}{spare:Nat→Bool}{held:Bool}
abbrev qn(w:World):Mem:=fun b o=>w.cell? ⟨b,o,none⟩
theorem Jl : ∀(n m:Nat)(t:TypeId)(cs:List Value)(d:DataW H)(ps:List MemPlace),plain P m t=true→DataW.trod enc P w base spare held n t cs=some (d,ps) →
 ∃xs:List AV,xQ P m t xs∧jC (qn w) ed xs cs:=by
 intro n
 induction n with
 | zero=>intro m t cs d ps _ h;simp[DataW.trod]at h
 | succ n ih =>
  intro m t cs d ps hp h
  cases m with
  | zero=>simp[plain]at hp
  | succ m =>
  have hp0:=hp
  unfold plain at hp
  unfold xQ
  cases hu:P.underlying t with
  | none=>rw[hu]at hp;simp at hp
  | some dd =>
   rw[hu]at hp
   unfold DataW.trod at h
   rw[hu]at h
   have single : ∀ {x:AV} {c:Value},VR (qn w) ed x c→jC (qn w) ed [x] [c]:=fun h=>jC.cons h jC.nil
   cases dd<;>dsimp only at hp ⊢ <;> try (simp at hp;done)
   ·
    rcases cs with _ | ⟨c,_ | ⟨c',cs⟩⟩
    ·simp at h
    ·cases c<;>first | (simp at h;done) | skip
     rename_i b
     exact⟨[aB b],⟨b,rfl⟩,single (.v rfl)⟩
    ·simp at h
   ·
    rename_i k
    rcases cs with _ | ⟨c,_ | ⟨c',cs⟩⟩
    ·simp at h
    ·cases c<;>first | (simp at h;done) | skip
     rename_i k' i
     dsimp only at h
     split at h
     ·rename_i hk
      obtain⟨rfl,hw⟩:=hk
      exact⟨[.v (.int k' i)],⟨i,by simpa [Lit.wf] using hw,rfl⟩,single (.v rfl)⟩
     ·cases h
    ·simp at h
   ·
    rcases cs with _ | ⟨c,_ | ⟨c',cs⟩⟩
    ·simp at h
    ·cases c<;>first | (simp at h;done) | skip
     rename_i s
     exact⟨[aS s],⟨s,rfl⟩,single (.v rfl)⟩
    ·simp at h
   ·
    rename_i e
    simp only[Bool.and_eq_true,beq_iff_eq,decide_eq_true_eq]at hp
    rcases cs with _ | ⟨c,_ | ⟨c',cs⟩⟩
    ·simp at h
    ·cases c<;>first | (simp at h;done) | skip
     rename_i a len cap
     cases a with
     | none =>
      have hlc:len=0∧cap=0:=by
       cases len<;>cases cap<;>simp at h ⊢
      obtain⟨rfl,rfl⟩:=hlc
      exact⟨[cP],.inl rfl,single (.v rfl)⟩
     | some a =>
      dsimp only at h
      split at h
      ·rename_i hb
       simp only[Option.bind_eq_some_iff,Option.map_eq_some_iff]at h
       obtain⟨elems,hel,_⟩:=h
       have hlen:elems.length=len:=by simpa using gY hel
       have each : ∀i,i<len →∃(xs:List AV) (vs:List Value),xQ P m e xs∧jC (qn w) ed xs vs∧w.cells? base (a.add (i * P.cellsOf e)) (P.cellsOf e)=some vs:=by
        intro i hi
        obtain⟨y,hy,hf⟩:=gZ hel i i (by simp[hi])
        simp only[Option.bind_eq_some_iff]at hf
        obtain⟨vs,hvs,hf⟩:=hf
        obtain⟨xs,h1,h2⟩:=ih m e vs y.1 y.2 hp.1.2 hf
        exact⟨xs,vs,h1,h2,hvs⟩
       have : ∀k,k≤len →∃es:List (List AV),es.length=k ∧∀i xs,es[i]?=some xs →∃vs:List Value,xQ P m e xs∧jC (qn w) ed xs vs∧w.cells? base (a.add (i * P.cellsOf e)) (P.cellsOf e)=some vs:=by
        intro k
        induction k with
        | zero=>intro _;exact⟨[],rfl,fun i xs h=>by simp at h⟩
        | succ k ihk =>
         intro hk
         obtain⟨es,h1,h2⟩:=ihk (by omega)
         obtain⟨xs,vs,h3⟩:=each k (by omega)
         refine⟨es++[xs],by simp[h1],fun i ys hy=>?_⟩
         rcases Nat.lt_or_ge i k with hi | hi
         ·rw[List.getElem?_append_left (by omega)]at hy
          exact h2 i ys hy
         ·have:i=k:=by
           have:=(List.getElem?_eq_some_iff.1 hy).1
           simp[h1]at this
           omega
          subst this
          rw[List.getElem?_append_right (by omega)]at hy
          simp[h1]at hy
          subst hy
          exact⟨vs,h3⟩
       obtain⟨es,hes,heach⟩:=this len (Nat.le_refl _)
       have hx1 : ∀xs∈es,(Hj ((dD P e).getD false) xs).cells=xs∧xs.length=P.cellsOf e:=by
        intro xs hxs
        obtain⟨i,hi,rfl⟩:=List.getElem_of_mem hxs
        obtain⟨vs,h1,h2,h3⟩:=heach i es[i] (List.getElem?_eq_getElem hi)
        obtain⟨h4,h5⟩:=h1.facts m e _ hp.1.2
        exact⟨Jo h5,h4⟩
       refine⟨[.cw (P.cellsOf e) (es.map (Hj ((dD P e).getD false))) none],.inr ⟨es,rfl,fun xs hxs=>?_⟩,single ?_⟩
       ·obtain⟨i,hi,rfl⟩:=List.getElem_of_mem hxs
        obtain⟨vs,h1,_⟩:=heach i es[i] (List.getElem?_eq_getElem hi)
        exact h1
       ·have hlm:(es.map (Hj ((dD P e).getD false))).length=len:=by simp[hes]
        have hcell : ∀i j,i<len→j<P.cellsOf e →∃xs vs,es[i]?=some xs∧jC (qn w) ed xs vs∧(∀x∈xs,x.one=true)∧xs.length=P.cellsOf e∧qn w a.block (a.off+(i * P.cellsOf e+j))=vs[j]?∧(a.spot=none):=by
         intro i j hi hj
         have hi':i<es.length:=by omega
         obtain⟨vs,h1,h2,h3⟩:=heach i es[i] (List.getElem?_eq_getElem hi')
         obtain⟨h4,h5⟩:=h1.facts m e _ hp.1.2
         obtain⟨hb',hvl,hc⟩:=World.cells?_some h3
         have hj':=hc j hj
         have hsp:a.spot=none:=by
          obtain⟨vs0,g1,g2,g3⟩:=heach 0 es[0] (List.getElem?_eq_getElem (by omega))
          obtain⟨_,hvl0,hc0⟩:=World.cells?_some g3
          have:=hc0 0 hp.2
          rw[Nat.zero_mul]at this
          have ha0:(a.add 0).add 0=a:=by simp[Addr.add]
          rw[ha0]at this
          unfold World.cell? at this
          cases hs:a.spot with
          | none=>rfl
          | some z =>
           exfalso
           have hl0:0<vs0.length:=by omega
           rw[List.getElem?_eq_getElem hl0]at this
           split at this
           ·rw[hs]at this;simp at this
           ·simp at this
         refine⟨es[i],vs,List.getElem?_eq_getElem hi',h2,h5,h4,?_,hsp⟩
         rw[←hj']
         unfold qn
         congr 1
         rw[jo hsp,fW,fW,Nat.add_assoc]
        have:=VR.cw (M:=qn w) (ι:=ed) (esz:=P.cellsOf e) (es:=es.map (Hj ((dD P e).getD false))) (cap:=none) (a:=a) (c:=cap)
         (fun i j=>(qn w a.block (a.off+(i * P.cellsOf e+j))).getD Go.undef) ?_ (by rw[hlm];exact hb.2.1) (fun k hk=>by cases hk) ?_ ?_ ?_
        ·rw[hlm]at this;exact this
        ·rcases Nat.eq_zero_or_pos len with h0 | h0
         ·right
          have:es=[]:=by apply List.eq_nil_of_length_eq_zero;omega
          simp[this]
         ·left
          obtain⟨_,_,_,_,_,_,_,hs⟩:=hcell 0 0 h0 hp.2
          exact hs
        ·intro i j hi hj
         rw[hlm]at hi
         obtain⟨xs,vs,h1,h2,h3,h4,h5,_⟩:=hcell i j hi hj
         have hjv:j<vs.length:=by rw[←h2.1,h4];exact hj
         have hjx:j<xs.length:=by rw[h4];exact hj
         rw[h5,List.getElem?_eq_getElem hjv]
         refine⟨rfl,?_⟩
         have:=h2.2 j xs[j] vs[j] (List.getElem?_eq_getElem hjx) (List.getElem?_eq_getElem hjv)
         exact this.one (h3 _ (List.getElem_mem ..))
        ·intro x hx
         obtain⟨xs,hxs,rfl⟩:=List.mem_map.1 hx
         rw[(hx1 xs hxs).1]
         exact(hx1 xs hxs).2
        ·intro i j x c hx hc
         rw[List.getElem?_map,Option.map_eq_some_iff]at hx
         obtain⟨xs,hxs,rfl⟩:=hx
         have hmem:xs∈es:=List.mem_of_getElem? hxs
         rw[(hx1 xs hmem).1]at hc
         have hi:i<len:=by have:=(List.getElem?_eq_some_iff.1 hxs).1;omega
         have hj:j<P.cellsOf e:=by have:=(List.getElem?_eq_some_iff.1 hc).1;rw[(hx1 xs hmem).2]at this;exact this
         obtain⟨xs',vs,h1,h2,h3,h4,h5,_⟩:=hcell i j hi hj
         rw[hxs]at h1
         cases h1
         have hjv:j<vs.length:=by rw[←h2.1,h4];exact hj
         show VR _ _ c ((qn w a.block (a.off+(i * P.cellsOf e+j))).getD Go.undef)
         rw[h5,List.getElem?_eq_getElem hjv]
         exact h2.2 j c vs[j] hc (List.getElem?_eq_getElem hjv)
      ·cases h
    ·simp at h
   ·
    rename_i k e
    simp only[Bool.and_eq_true,beq_iff_eq]at hp
    have h:cs.length=P.cellsOf t ∧∃xs,((List.range k).mapM fun i=>DataW.trod enc P w base spare held n e ((cs.drop (i * P.cellsOf e)).take (P.cellsOf e)))=some xs:=by
     dsimp only at h
     split at h
     ·rename_i hl
      simp only[Option.map_eq_some_iff]at h
      obtain⟨xs,hxs,_⟩:=h
      exact⟨hl,xs,hxs⟩
     ·cases h
    obtain⟨hl,ys,hys⟩:=h
    rw[hp.2]at hl
    have : ∀(k' i0:Nat),i0+k'=k →∃xs,IA (xQ P m e) k' xs∧jC (qn w) ed xs (cs.drop (i0 * P.cellsOf e)):=by
     intro k'
     induction k' with
     | zero =>
      intro i0 hi
      refine⟨[],rfl,?_⟩
      rw[List.drop_of_length_le (by rw[hl,←hi];simp)]
      exact jC.nil
     | succ k' ihk =>
      intro i0 hi
      obtain⟨b,hb1,hb2⟩:=ihk (i0+1) (by omega)
      obtain⟨y,_,hf⟩:=gZ hys i0 i0 (by rw[List.getElem?_range (by omega)])
      obtain⟨a,ha1,ha2⟩:=ih m e _ y.1 y.2 hp.1 hf
      refine⟨a++b,⟨a,b,rfl,ha1,hb1⟩,?_⟩
      have:cs.drop (i0 * P.cellsOf e)=(cs.drop (i0 * P.cellsOf e)).take (P.cellsOf e)++cs.drop ((i0+1) * P.cellsOf e):=by
       rw[Nat.succ_mul,←List.drop_drop,List.take_append_drop]
      rw[this]
      exact ha2.append hb2
    obtain⟨xs,h1,h2⟩:=this k 0 (by omega)
    exact⟨xs,h1,by simpa using h2⟩
   ·
    rename_i fs
    simp only[Bool.and_eq_true,beq_iff_eq,List.all_eq_true]at hp
    have h:cs.length=P.cellsOf t ∧∃xs,(fs.toList.mapM fun f=>DataW.trod enc P w base spare held n f.type ((cs.drop f.offset).take (P.cellsOf f.type)))=some xs:=by
     dsimp only at h
     split at h
     ·rename_i hl
      simp only[Option.map_eq_some_iff]at h
      obtain⟨xs,hxs,_⟩:=h
      exact⟨hl,xs,hxs⟩
     ·cases h
    obtain⟨hl,ys,hys⟩:=h
    have : ∀(l:List Field)(o:Nat),(∀f∈l,plain P m f.type=true)→(∀f∈l,∃y,DataW.trod enc P w base spare held n f.type ((cs.drop f.offset).take (P.cellsOf f.type))=some y)→layout P l o=some cs.length →
     ∃xs,O9 (xQ P m) l xs∧jC (qn w) ed xs (cs.drop o):=by
     intro l
     induction l with
     | nil =>
      intro o _ _ hlay
      simp[layout]at hlay
      refine⟨[],rfl,?_⟩
      rw[List.drop_of_length_le (by omega)]
      exact jC.nil
     | cons f l ihl =>
      intro o hpl htr hlay
      unfold layout at hlay
      split at hlay
      ·rename_i ho
       obtain⟨b,hb1,hb2⟩:=ihl (o+P.cellsOf f.type) (fun f hf=>hpl f (List.mem_cons_of_mem _ hf)) (fun f hf=>htr f (List.mem_cons_of_mem _ hf)) hlay
       obtain⟨y,hf⟩:=htr f (List.mem_cons_self ..)
       obtain⟨a,ha1,ha2⟩:=ih m f.type _ y.1 y.2 (hpl f (List.mem_cons_self ..)) hf
       rw[ho]at ha2
       refine⟨a++b,⟨a,b,rfl,ha1,hb1⟩,?_⟩
       have:cs.drop o=(cs.drop o).take (P.cellsOf f.type)++cs.drop (o+P.cellsOf f.type):=by
        rw[←List.drop_drop,List.take_append_drop]
       rw[this]
       exact ha2.append hb2
      ·cases hlay
    obtain⟨xs,h1,h2⟩:=this fs.toList 0 hp.1 (fun f hf=>by
     obtain⟨i,hi,rfl⟩:=List.getElem_of_mem hf
     obtain⟨y,_,hy⟩:=gZ hys i fs.toList[i] (List.getElem?_eq_getElem hi)
     exact⟨y,hy⟩) (by rw[hl];exact hp.2)
    exact⟨xs,h1,by simpa using h2⟩
def Mt(P:Program)(n:Nat)(t:TypeId)(x:AV):Prop :=
 match dD P t with
 | some true =>∃xs,x = .agg xs∧xQ P n t xs
 | _=>xQ P n t [x]
def J7(P:Program)(n:Nat):List TypeId→List AV→Prop
 | [],[]=>True
 | t :: ts,x :: xs=>Mt P n t x∧J7 P n ts xs
 | _,_=>False
theorem Jk{m:Nat}{t:TypeId}{v:Value}{d:DataW H}{ps:List MemPlace}(hp:plain P m t=true)(hok:Value.okWide P w .any base t v){base':Nat}(h:DataW.Trod enc P w base' spare held t v d ps) :
 ∃x:AV,Mt P m t x∧VR (qn w) ed x v:=by
 obtain⟨n,hn⟩:=h
 obtain⟨xs,h1,h2⟩:=Jl n m t v.cells.toList d ps hp hn
 unfold Mt
 by_cases hag:dD P t=some true
 ·rw[hag]
  have : ∃cs,v = .agg cs:=by
   unfold dD at hag
   unfold Value.okWide at hok
   cases hu:P.underlying t with
   | none=>rw[hu]at hag;simp at hag
   | some dd=>rw[hu]at hag hok;cases dd<;>simp at hag<;>(obtain⟨cs,rfl,_⟩:=hok;exact⟨cs,rfl⟩)
  obtain⟨cs,rfl⟩:=this
  exact⟨.agg xs,⟨xs,rfl,h1⟩,VR.oe.2 h2⟩
 ·have hv:v.cells = #[v] ∧∃x,xs=[x]:=by
   have hf:=h1.facts m t xs hp
   cases m with
   | zero=>simp[plain]at hp
   | succ m =>
   have hp':=hp
   unfold plain at hp'
   unfold dD at hag
   unfold Value.okWide at hok
   cases hu:P.underlying t with
   | none=>rw[hu]at hp';simp at hp'
   | some dd =>
    rw[hu]at hp' hag hok
    have fin:P.cellsOf t=1→Cell.okWide P w .any base t v→v.cells = #[v] ∧∃x,xs=[x]:=by
     intro hc hcell
     refine⟨?_,?_⟩
     ·cases v<;>try rfl
      exfalso
      unfold Cell.okWide at hcell
      rw[hu]at hcell
      cases dd<;>simp at hp' hag<;>(simp[Cell.ok,hu]at hcell)
     ·have:=hf.1
      rw[hc]at this
      match xs,this with
      | [x],_=>exact⟨x,rfl⟩
    cases dd<;>simp at hp' hag
    ·exact fin hp' hok
    ·exact fin hp' hok
    ·exact fin hp' hok
    ·exact fin hp'.1.1 hok
  obtain⟨hv,x,rfl⟩:=hv
  rw[hv]at h2
  refine⟨x,?_,h2.2 0 x v rfl rfl⟩
  have:(match dD P t with | some true =>∃xs,x = .agg xs∧xQ P m t xs | _=>xQ P m t [x])=xQ P m t [x]:=by
   split
   ·rename_i hh;exact(hag hh).elim
   ·rfl
  rw[this]
  exact h1
theorem NY{m:Nat}{base':Nat} : ∀ {ts:List TypeId} {vs:List Value} {ds:List (DataW H)} {ps:List MemPlace},ts.all (plain P m)=true→(∀(j:Nat) t v,ts[j]?=some t→vs[j]?=some v→Value.okWide P w .any base t v) →
 DataW.TrodAll enc P w base' spare held ts vs ds ps →∃xs:List AV,J7 P m ts xs∧jC (qn w) ed xs vs:=by
 intro ts
 induction ts with
 | nil =>
  intro vs ds ps _ _ h
  obtain⟨rfl,_,_⟩:=trodAll_nil h
  exact⟨[],trivial,jC.nil⟩
 | cons t ts ih =>
  intro vs ds ps hp hok h
  obtain⟨v,vs',d,ds',p,q,rfl,rfl,rfl,h1,h2⟩:=trodAll_cons h
  simp only[List.all_cons,Bool.and_eq_true]at hp
  obtain⟨x,hx1,hx2⟩:=Jk hp.1 (hok 0 t v rfl rfl) h1
  obtain⟨xs,hs1,hs2⟩:=ih hp.2 (fun j t v h1 h2=>hok (j+1) t v h1 h2) h2
  exact⟨x :: xs,⟨hx1,hs1⟩,jC.cons hx2 hs2⟩
end
theorem Gy{H:Type}{enc:TypeId × Value→H}{P:Program}{w:World}{base:Nat}{spare:Nat→Bool}{held:Bool} : ∀ {ts:List TypeId} {vs:List Value} {ds:List (DataW H)} {ps:List MemPlace},
 DataW.TrodAll enc P w base spare held ts vs ds ps→ds.length=ts.length:=by
 intro ts
 induction ts with
 | nil=>intro vs ds ps h;obtain⟨_,rfl,_⟩:=trodAll_nil h;rfl
 | cons t ts ih =>
  intro vs ds ps h
  obtain⟨v,vs',d,ds',p,q,rfl,rfl,rfl,_,h2⟩:=trodAll_cons h
  simp[ih h2]
theorem vZ{P:Program}{n:Nat}{t:TypeId}{ts:List TypeId}{xs:List AV}(h:J7 P n (t :: ts) xs) : ∃x xs',xs=x :: xs'∧Mt P n t x∧J7 P n ts xs':=by
 cases xs with
 | nil=>exact h.elim
 | cons x xs=>exact⟨x,xs,rfl,h.1,h.2⟩
theorem M6{P:Program}{n:Nat}{xs:List AV}(h:J7 P n [] xs):xs=[]:=by
 cases xs with
 | nil=>rfl
 | cons x xs=>exact h.elim
theorem DJ{E:Env}{ok:Array Oper→Bool}(hE:E.Ok ok){T:TypeId→Prop}(K:Kids E.P T)(hz : ∀t e,T t→E.P.underlying t=some (.slice e)→0<E.P.cellsOf e){H:Type}{enc:TypeId × Value→H}{id:FuncId}{f:Func}{s:ChangeSpec}{apart fresh handsOn again:Bool}{m:Nat}
 (hT : ∀t∈f.params.toList,T t) (hp:f.params.toList.all (plain E.P m)=true) (hv:s.vars=[]) (hs : ∀ds:List (DataW H),ds.length=f.params.toList.length→s.fn H ds = { results:=[.lit (.bool true)],args:=ds}) (hr:F7 E.P f=true)
 (h : ∀xs,J7 E.P m f.params.toList xs→bj E id xs=some (.v (.bool true)))
 (W:World) (base:Nat) (args:Array Value) (ds gs:List (DataW H)) (before:List MemPlace) (hval : ∀(j:Nat) t v,f.params[j]?=some t→args[j]?=some v→Value.okWide E.P W .any base t v)
 (hW:DataW.Whole enc E.P f.params.toList s.vars apart W args.toList ds gs before) :
 Calls E.P id args W fun e W' =>∃v,e = .returned v∧s.post enc E.P f apart fresh handsOn again W args v W':=by
 obtain⟨tb,hr,hb⟩:=J1 hr
 have hW0:=hW
 obtain⟨p,q,hA,hV,rfl,hfz,hnd⟩:=hW0
 obtain⟨xs,hx1,hx2⟩:=NY hp (fun j t v h1 h2=>hval j t v (by simpa using h1) (by simpa using h2)) hA
 obtain⟨n,hrun⟩:=Oo (h xs hx1)
 have hdl:ds.length=f.params.toList.length:=Gy hA
 refine(JX hE hrun (us:=args.toList) hx2).mono fun e W' ⟨he,hk⟩=>⟨_,he,?_⟩
 exact LI K hz hT hv hW (hs ds hdl) hr hb hk
end Go.Ab
namespace Go.Ab
def IE{α:Type}(P:Program)(t:TypeId)(ok:α→Prop)(enc:α→List AV):Prop :=∀n xs,xQ P n t xs →∃a,ok a∧xs=enc a
def isBool(P:Program)(t:TypeId):Bool:=match P.underlying t with | some .bool=>true | _=>false
def fw(P:Program)(t:TypeId):Option (List TypeId):=match P.underlying t with | some (.struct fs)=>some (fs.toList.map (·.type)) | _=>none
theorem GW{P:Program}{t:TypeId}(h:isBool P t=true):IE P t (fun _=>True) fun b:Bool=>[aB b]:=by
 intro n xs hx
 cases n with
 | zero=>exact hx.elim
 | succ n =>
  unfold isBool at h
  unfold xQ at hx
  split at h
  ·rename_i hu;rw[hu]at hx;obtain⟨b,rfl⟩:=hx;exact⟨b,trivial,rfl⟩
  ·cases h
theorem Bl{P:Program}{t:TypeId}{k:IntKind}(h:intKind P t=some k):IE P t (fun i:Int=>k.min≤i∧i≤k.max) fun i:Int=>[.v (.int k i)]:=by
 intro n xs hx
 cases n with
 | zero=>exact hx.elim
 | succ n =>
  unfold xQ at hx
  rw[yX h]at hx
  obtain⟨i,hi,rfl⟩:=hx
  exact⟨i,hi,rfl⟩
theorem oZ{P:Program}{t:TypeId}(h:intKind P t=some .i64):IE P t (fun i:Int => -9223372036854775808≤i∧i≤9223372036854775807) fun i:Int=>[aI i]:=fun n xs hx=>by
 obtain⟨i,hi,rfl⟩:=Bl h n xs hx;exact⟨i,hi,rfl⟩
theorem Qj{P:Program}{t:TypeId}(h:intKind P t=some .i32):IE P t (fun i:Int => -2147483648≤i∧i≤2147483647) fun i:Int=>[.v (.int .i32 i)]:=fun n xs hx=>by
 obtain⟨i,hi,rfl⟩:=Bl h n xs hx;exact⟨i,hi,rfl⟩
theorem Km{P:Program}{t:TypeId}(h:intKind P t=some .u8):IE P t (fun _=>True) fun b:UInt8=>[a8 b]:=fun n xs hx=>by
 obtain⟨i,hi,rfl⟩:=Bl h n xs hx
 refine⟨u8 i,trivial,?_⟩
 have h1:(0:Int)≤i:=hi.1
 have h2:i≤255:=hi.2
 unfold a8
 show[AV.v (.int .u8 i)]=[AV.v (.int .u8 ((u8 i).toNat:Int))]
 rw[Eh,Int.emod_eq_of_lt h1 (by omega),Int.toNat_of_nonneg h1]
theorem SV{P:Program}{t:TypeId}(h:intKind P t=some .u32):IE P t (fun _=>True) fun b:UInt32=>[aG b]:=fun n xs hx=>by
 obtain⟨i,hi,rfl⟩:=Bl h n xs hx
 refine⟨u32 i,trivial,?_⟩
 have h1:(0:Int)≤i:=hi.1
 have h2:i≤4294967295:=hi.2
 unfold aG
 show[AV.v (.int .u32 i)]=[AV.v (.int .u32 ((u32 i).toNat:Int))]
 rw[BK,Int.emod_eq_of_lt h1 (by omega),Int.toNat_of_nonneg h1]
theorem QM{α:Type}{ok:α→Prop}{enc:α→List AV} : ∀(es:List (List AV)),(∀x∈es,∃a,ok a∧x=enc a) →∃l:List α,(∀a∈l,ok a)∧es=l.map enc:=by
 intro es
 induction es with
 | nil=>intro _;exact⟨[],by simp,rfl⟩
 | cons x es ih =>
  intro h
  obtain⟨a,ha,rfl⟩:=h x (List.mem_cons_self ..)
  obtain⟨l,hl,rfl⟩:=ih fun x hx=>h x (List.mem_cons_of_mem _ hx)
  refine⟨a :: l,?_,rfl⟩
  intro b hb
  rcases List.mem_cons.1 hb with rfl | hb
  ·exact ha
  ·exact hl b hb
theorem K6{P:Program}{t e:TypeId}(h:dY P t=some e):P.underlying t=some (.slice e):=by
 unfold dY at h
 split at h
 ·cases h;assumption
 ·cases h
theorem yg{α:Type}{P:Program}{t e:TypeId}{z:Nat}{ag:Bool}{ok:α→Prop}{enc:α→List AV}(he:dY P t=some e)(hz:aU P e=some z)(ha:dD P e=some ag)(hR:IE P e ok enc){n:Nat}{xs:List AV}(h:xQ P n t xs) :
 ∃(l:List α) (x:AV),(∀a∈l,ok a)∧xs=[x]∧Sl z (l.map fun a=>Hj ag (enc a)) x:=by
 cases n with
 | zero=>exact h.elim
 | succ n =>
  unfold xQ at h
  rw[K6 he]at h
  rcases h with rfl | ⟨es,rfl,hall⟩
  ·exact⟨[],cP,by simp,rfl,.inl ⟨rfl,rfl⟩⟩
  ·obtain⟨l,hl,rfl⟩:=QM es fun x hx=>hR n x (hall x hx)
   have hc:P.cellsOf e=z:=by
    unfold aU at hz
    unfold Program.cellsOf
    rw[hz];rfl
   refine⟨l,_,hl,rfl,?_⟩
   rw[hc,ha,List.map_map]
   exact Sl.mk z _
theorem Mt.cell{P:Program}{n:Nat}{t:TypeId}{x:AV}(ha:dD P t=some false)(h:Mt P n t x):xQ P n t [x]:=by
 unfold Mt at h;rw[ha]at h;exact h
theorem Mt.agg{P:Program}{n:Nat}{t:TypeId}{x:AV}(ha:dD P t=some true)(h:Mt P n t x) : ∃xs,x = .agg xs∧xQ P n t xs:=by
 unfold Mt at h;rw[ha]at h;exact h
def Yz(S:TypeId→List AV→Prop):List TypeId→List AV→Prop
 | [],xs=>xs=[]
 | t :: ts,xs =>∃a b,xs=a++b∧S t a∧Yz S ts b
theorem jG{P:Program}{t:TypeId}{ts:List TypeId}(ht:fw P t=some ts){n:Nat}{xs:List AV}(h:xQ P n t xs) : ∃m,Yz (xQ P m) ts xs:=by
 cases n with
 | zero=>exact h.elim
 | succ n =>
  unfold fw at ht
  split at ht
  ·rename_i fs hu
   cases ht
   unfold xQ at h
   rw[hu]at h
   refine⟨n,?_⟩
   dsimp only at h
   generalize fs.toList=l at h
   induction l generalizing xs with
   | nil=>exact h
   | cons f l ih =>
    obtain⟨a,b,rfl,ha,hb⟩:=h
    exact⟨a,b,rfl,ha,ih hb⟩
  ·cases ht
end Go.Ab
namespace Go.Ab
def sQ(P:Program)(d e c:Nat)(xs ys:Array Value):List Nat→Option Bool
 | []=>some true
 | i :: is=>match bz P (part e xs (i * c)),bz P (part e ys (i * c)) with
  | some a,some b=>(match bz P (Op.equalIn d e a b) with
   | some true=>sQ P d e c xs ys is
   | some false=>some false
   | none=>none)
  | _,_=>none
theorem Kp{P:Program}{t:TypeId}{z:Nat}(h:aU P t=some z):bz P (sizeOf t)=some z:=by
 simp only[aU,Option.map_eq_some_iff]at h
 obtain⟨i,hi,rfl⟩:=h
 simp only[sizeOf,typeInfo,bO]
 show((some P).bind _).bind _=_
 simp only[Option.bind_some,hi]
 rfl
theorem zO{P:Program}(d:Nat){t e:TypeId}{n c:Nat}(xs ys:Array Value)(hu:P.underlying t=some (.array n e))(hi:aU P e=some c) :
 bz P (Op.equalIn (d+1) t (.agg xs) (.agg ys))=sQ P d e c xs ys (List.range n):=by
 simp only[Op.equalIn,bO,kb hu,Option.bind_some,Kp hi]
 simp only[Std.Legacy.Range.forIn_eq_forIn_range',Std.Legacy.Range.size,Nat.sub_zero,Nat.add_one_sub_one,Nat.div_one,List.range_eq_range']
 generalize List.range' 0 n=is
 induction is with
 | nil=>rfl
 | cons j is ih =>
  simp only[List.forIn_cons,sQ,bO]
  cases h1:bz P (part e xs (j * c)) with
  | none=>rfl
  | some a =>
   cases h2:bz P (part e ys (j * c)) with
   | none=>rfl
   | some b =>
    simp only[Option.bind_some]
    cases h3:bz P (Op.equalIn d e a b) with
    | none=>rfl
    | some r =>
     cases r
     ·rfl
     ·simp only[Option.bind_some,Bool.not_true,Bool.false_eq_true,if_false]
      exact ih
def p8(P:Program)(d:Nat)(xs ys:Array Value):List Field→Option Bool
 | []=>some true
 | f :: fs=>match bz P (part f.type xs f.offset),bz P (part f.type ys f.offset) with
  | some a,some b=>(match bz P (Op.equalIn d f.type a b) with
   | some true=>p8 P d xs ys fs
   | some false=>some false
   | none=>none)
  | _,_=>none
theorem yB{P:Program}(d:Nat){t:TypeId}{fs:Array Field}(xs ys:Array Value)(hu:P.underlying t=some (.struct fs))(hs:P.stoodInHeld t=false)(hn : ∀f∈fs.toList,(f.name != "_")=true) :
 bz P (Op.equalIn (d+1) t (.agg xs) (.agg ys))=p8 P d xs ys fs.toList:=by
 have hp:bz P program=some P:=rfl
 simp only[Op.equalIn,bO,kb hu,Option.bind_some,hp,hs,Bool.false_eq_true,if_false]
 simp only[←Array.forIn_toList]
 generalize fs.toList=is at hn
 induction is with
 | nil=>rfl
 | cons f is ih =>
  have hf:f.name ≠ "_" := by simpa using hn f (List.mem_cons_self ..)
  simp only[List.forIn_cons,p8,bO,hf,ne_eq,not_false_eq_true,if_true]
  have hpu:bz P (pure PUnit.unit:Sem PUnit)=some PUnit.unit:=rfl
  cases h1:bz P (part f.type xs f.offset) with
  | none=>rfl
  | some a =>
   cases h2:bz P (part f.type ys f.offset) with
   | none=>rfl
   | some b =>
    simp only[Option.bind_some]
    cases h3:bz P (Op.equalIn d f.type a b) with
    | none=>rfl
    | some r =>
     cases r
     ·rfl
     ·simp only[Option.bind_some,Bool.not_true,Bool.false_eq_true,if_false]
      exact ih fun g hg=>hn g (List.mem_cons_of_mem _ hg)
def xD:List AV→List AV→Option Bool
 | [.v (.bool a)],[.v (.bool b)]=>some (decide (a=b))
 | [.v (.int k a)],[.v (.int k' b)]=>if k=k' then some (decide (a=b)) else none
 | [.v (.string a)],[.v (.string b)]=>some (a == b)
 | _,_=>none
def gb(S:TypeId→List AV→List AV→Option Bool)(P:Program):List TypeId→List AV→List AV→Option Bool
 | [],_,_=>some true
 | t :: ts,xs,ys=>match aU P t with
  | none=>none
  | some z=>match S t (xs.take z) (ys.take z),gb S P ts (xs.drop z) (ys.drop z) with
   | some a,some b=>some (a&&b)
   | _,_=>none
def CM(S:List AV→List AV→Option Bool)(z:Nat):Nat→List AV→List AV→Option Bool
 | 0,_,_=>some true
 | k+1,xs,ys=>match S (xs.take z) (ys.take z),CM S z k (xs.drop z) (ys.drop z) with
  | some a,some b=>some (a&&b)
  | _,_=>none
def lF(P:Program)(t:TypeId):Option Nat:=match P.underlying t with
 | some .bool=>some 0
 | some (.int _)=>some 1
 | some .string=>some 2
 | _=>none
def EM:AV→Nat
 | .v (.bool _)=>0
 | .v (.int _ _)=>1
 | .v (.string _)=>2
 | _=>3
def lZ(P:Program):Nat→TypeId→List AV→List AV→Option Bool
 | 0,_,_,_=>none
 | n+1,t,xs,ys=>match lF P t with
  | some l=>(match xs,ys with
   | [x],[y]=>cond (Nat.beq (EM x) l) (xD [x] [y]) none
   | _,_=>none)
  | none=>match fw P t with
   | some ts=>gb (lZ P n) P ts xs ys
   | none=>match iy P t with
    | some (k,e)=>(match aU P e with
     | some z=>CM (lZ P n e) z k xs ys
     | none=>none)
    | none=>none
def Ba(P:Program):Nat→TypeId→Bool
 | 0,_=>false
 | n+1,t=>match P.underlying t with
  | some .bool | some (.int _) | some .string=>dD P t == some false&&aU P t == some 1
  | some (.struct fs)=>fs.toList.all (fun f=>Ba P n f.type&&f.name != "_")&&layout P fs.toList 0 == some (P.cellsOf t) && !P.stoodInHeld t
  | some (.array k e)=>Ba P n e&&P.cellsOf t == k * P.cellsOf e
  | _=>false
def nH(xs:List AV):Option (List Value):=xs.mapM Eg
theorem vW{xs:List AV}{vs:List Value}(h:nH xs=some vs)(n:Nat):nH (xs.take n)=some (vs.take n):=by
 unfold nH at *
 induction xs generalizing vs n with
 | nil=>simp at h;subst h;simp
 | cons x xs ih =>
  simp only[List.mapM_cons,Option.pure_def,Option.bind_eq_bind,Option.bind_eq_some_iff]at h
  obtain⟨v,hv,vs',hvs,e⟩:=h
  cases e
  cases n with
  | zero=>simp
  | succ n=>simp only[List.take_succ_cons,List.mapM_cons,hv,ih hvs n];rfl
theorem vX{xs:List AV}{vs:List Value}(h:nH xs=some vs)(n:Nat):nH (xs.drop n)=some (vs.drop n):=by
 unfold nH at *
 induction xs generalizing vs n with
 | nil=>simp at h;subst h;simp
 | cons x xs ih =>
  simp only[List.mapM_cons,Option.pure_def,Option.bind_eq_bind,Option.bind_eq_some_iff]at h
  obtain⟨v,hv,vs',hvs,e⟩:=h
  cases e
  cases n with
  | zero=>simp only[List.drop_zero,List.mapM_cons,hv,hvs];rfl
  | succ n=>simp only[List.drop_succ_cons];exact ih hvs n
def qZ(P:Program)(t:TypeId)(vs:List Value):Option Value:=match dD P t with
 | some true=>some (.agg vs.toArray)
 | some false=>vs.head?
 | none=>none
theorem Bm{P:Program}{t:TypeId}{z:Nat}(hz:aU P t=some z){vs:List Value}{o:Nat}{v:Value}(hv:qZ P t ((vs.drop o).take z)=some v)(h1:dD P t=some false→z=1):bz P (part t vs.toArray o)=some v:=by
 unfold qZ at hv
 have hag : ∀b,dD P t=some b→bz P (isAgg t)=some b:=by
  intro b hb
  simp only[dD,Option.map_eq_some_iff]at hb
  obtain⟨dd,hd,rfl⟩:=hb
  simp only[isAgg,bO,kb hd,Option.bind_some]
  cases dd<;>rfl
 unfold part
 split at hv
 ·rename_i ha
  cases hv
  simp only[bO,hag _ ha,Option.bind_some,if_true,Kp hz]
  show some _=some _
  congr 2
  apply Array.toList_inj.1
  simp only[Array.toList_extract,List.extract_eq_take_drop,Nat.add_sub_cancel_left]
 ·rename_i ha
  simp only[bO,hag _ ha,Option.bind_some,Bool.false_eq_true,if_false]
  have:vs.toArray[o]?=some v:=by
   rw[h1 ha]at hv
   rw[List.getElem?_toArray]
   cases hd:vs.drop o with
   | nil=>rw[hd]at hv;simp at hv
   | cons u us =>
    rw[hd]at hv
    simp at hv
    subst hv
    have:=congrArg List.head? hd
    simpa [List.head?_drop] using this
  rw[this]
  rfl
 ·cases hv
theorem OJ{P:Program} : ∀(n:Nat)(D:Nat)(t:TypeId)(xs ys:List AV)(us vs:List Value)(b:Bool),Ba P n t=true→lZ P n t xs ys=some b→nH xs=some us→nH ys=some vs→xs.length=P.cellsOf t→ys.length=P.cellsOf t →
 ∃u v,qZ P t us=some u∧qZ P t vs=some v∧bz P (Op.equalIn (D+n) t u v)=some b:=by
 intro n
 induction n with
 | zero=>intro D t xs ys us vs b h;simp[Ba]at h
 | succ n ih =>
  intro D t xs ys us vs b hok h hu hv hlx hly
  unfold Ba at hok
  unfold lZ at h
  cases hd:P.underlying t with
  | none=>rw[hd]at hok;simp at hok
  | some dd =>
   rw[hd]at hok
   have leaf : ∀l,lF P t=some l→(dD P t == some false&&aU P t == some 1)=true→(l=0∧dd = .bool∨(l=1 ∧∃k,dd = .int k)∨l=2∧dd = .string) →∃u v,qZ P t us=some u∧qZ P t vs=some v∧bz P (Op.equalIn (D+(n+1)) t u v)=some b:=by
    intro l hl hok hdd
    simp only[Bool.and_eq_true,beq_iff_eq]at hok
    rw[hl]at h
    dsimp only at h
    split at h
    ·rename_i x y
     cases hb:Nat.beq (EM x) l with
     | false=>rw[hb]at h;cases h
     | true =>
      rw[hb]at h
      replace hb:=Nat.eq_of_beq_eq_true hb
      have e1 : ∃u,us=[u]∧Eg x=some u:=by
       unfold nH at hu;simp only[List.mapM_cons,List.mapM_nil,Option.pure_def,Option.bind_eq_bind,Option.bind_eq_some_iff]at hu
       obtain⟨u,h1,ws,h2,h3⟩:=hu
       cases h2;cases h3;exact⟨u,rfl,h1⟩
      have e2 : ∃u,vs=[u]∧Eg y=some u:=by
       unfold nH at hv;simp only[List.mapM_cons,List.mapM_nil,Option.pure_def,Option.bind_eq_bind,Option.bind_eq_some_iff]at hv
       obtain⟨u,h1,ws,h2,h3⟩:=hv
       cases h2;cases h3;exact⟨u,rfl,h1⟩
      obtain⟨u,rfl,hu1⟩:=e1
      obtain⟨v,rfl,hv1⟩:=e2
      refine⟨u,v,by simp[qZ,hok.1],by simp[qZ,hok.1],?_⟩
      rw[show D+(n+1)=(D+n)+1 from rfl]
      simp only[cond_true]at h
      unfold xD at h
      simp only[Op.equalIn,bO,kb hd,Option.bind_some]
      split at h
      ·rename_i a c ea ec
       simp only[List.cons.injEq,and_true]at ea ec
       subst ea;subst ec
       simp[Eg]at hu1 hv1
       subst hu1;subst hv1
       have hl0:l=0:=hb.symm
       rcases hdd with ⟨_,rfl⟩ | ⟨h1,_⟩ | ⟨h1,_⟩
       ·rw[←h];show some (a == c)=_;congr 1
       ·omega
       ·omega
      ·rename_i k a k' c ea ec
       simp only[List.cons.injEq,and_true]at ea ec
       subst ea;subst ec
       simp[Eg]at hu1 hv1
       subst hu1;subst hv1
       have hl0:l=1:=hb.symm
       rcases hdd with ⟨h1,_⟩ | ⟨_,k0,rfl⟩ | ⟨h1,_⟩
       ·omega
       ·split at h
        ·rename_i hk
         subst hk
         rw[←h]
         show bz P (if k=k then pure (a == c) else _)=_
         rw[if_pos rfl]
         show some (a == c)=_
         congr 1
        ·cases h
       ·omega
      ·rename_i a c ea ec
       simp only[List.cons.injEq,and_true]at ea ec
       subst ea;subst ec
       simp[Eg]at hu1 hv1
       subst hu1;subst hv1
       have hl0:l=2:=hb.symm
       rcases hdd with ⟨h1,_⟩ | ⟨h1,_⟩ | ⟨_,rfl⟩
       ·omega
       ·omega
       ·rw[←h];rfl
      ·cases h
    ·cases h
   have hlt : ∀l,lF P t=some l→_:=fun l hl=>leaf l hl
   cases dd<;>dsimp only at hok<;>try (simp at hok;done)
   ·exact leaf 0 (by simp[lF,hd]) hok (.inl ⟨rfl,rfl⟩)
   ·rename_i k;exact leaf 1 (by simp[lF,hd]) hok (.inr (.inl ⟨rfl,k,rfl⟩))
   ·exact leaf 2 (by simp[lF,hd]) hok (.inr (.inr ⟨rfl,rfl⟩))
   ·
    rename_i k e
    simp only[Bool.and_eq_true,beq_iff_eq]at hok
    obtain⟨hok,hcell⟩:=hok
    have hl:lF P t=none:=by simp[lF,hd]
    have hf:fw P t=none:=by simp[fw,hd]
    have hta:iy P t=some (k,e):=by simp[iy,hd]
    rw[hl,hf,hta]at h
    dsimp only at h
    have hag:dD P t=some true:=by simp[dD,hd]
    cases hz:aU P e with
    | none=>rw[hz]at h;cases h
    | some z =>
     rw[hz]at h
     dsimp only at h
     have hcz:P.cellsOf e=z:=by simp only[aU]at hz;simp[Program.cellsOf,hz]
     have hone:dD P e=some false→z=1:=by
      intro hagf
      cases n with
      | zero=>simp[Ba]at hok
      | succ n' =>
       unfold Ba at hok
       unfold dD at hagf
       cases huf:P.underlying e with
       | none=>rw[huf]at hok;simp at hok
       | some d2 =>
        rw[huf]at hok hagf
        cases d2<;>simp at hok hagf<;>(have:=hok.2;rw[hz]at this;simpa using this)
     refine⟨.agg us.toArray,.agg vs.toArray,by simp[qZ,hag],by simp[qZ,hag],?_⟩
     rw[show D+(n+1)=(D+n)+1 from rfl,zO (D+n) _ _ hd hz]
     have : ∀(m i0:Nat)(b:Bool),(i0+m) * z≤xs.length→(i0+m) * z≤ys.length→CM (lZ P n e) z m (xs.drop (i0 * z)) (ys.drop (i0 * z))=some b→sQ P (D+n) e z us.toArray vs.toArray (List.range' i0 m)=some b:=by
      intro m
      induction m with
      | zero=>intro i0 b _ _ h;simp[CM]at h;simp[sQ,h]
      | succ m ihm =>
       intro i0 b hx hy h
       simp only[CM]at h
       have hmul:(i0+(m+1)) * z=i0 * z+z+m * z:=by rw[Nat.add_mul,Nat.succ_mul];omega
       rw[hmul]at hx hy
       cases h1:lZ P n e ((xs.drop (i0 * z)).take z) ((ys.drop (i0 * z)).take z) with
       | none=>rw[h1]at h;simp at h
       | some a =>
        rw[h1]at h
        cases h2:CM (lZ P n e) z m ((xs.drop (i0 * z)).drop z) ((ys.drop (i0 * z)).drop z) with
        | none=>rw[h2]at h;simp at h
        | some c =>
         rw[h2]at h
         simp only[Option.some.injEq]at h
         rw[List.drop_drop,List.drop_drop,←Nat.succ_mul]at h2
         obtain⟨u,v,hu1,hv1,heq⟩:=ih D e _ _ _ _ a hok h1 (vW (vX hu (i0 * z)) z) (vW (vX hv (i0 * z)) z)
          (by rw[List.length_take,List.length_drop,hcz];omega) (by rw[List.length_take,List.length_drop,hcz];omega)
         have p1:=Bm hz (o:=i0 * z) hu1 hone
         have p2:=Bm hz (o:=i0 * z) hv1 hone
         simp only[List.range'_succ,sQ,p1,p2,heq]
         cases a with
         | false=>simp at h;simp[h]
         | true =>
          simp only[Bool.true_and]at h
          subst h
          exact ihm (i0+1) c (by rw[show i0+1+m=i0+(m+1) by omega,hmul];exact hx) (by rw[show i0+1+m=i0+(m+1) by omega,hmul];exact hy) h2
     rw[List.range_eq_range']
     by_cases hk0:k * z≤xs.length∧k * z≤ys.length
     ·exact this k 0 b (by simpa using hk0.1) (by simpa using hk0.2) (by simpa using h)
     ·exfalso
      rw[hcz]at hcell
      exact hk0 ⟨by omega,by omega⟩
   ·
    rename_i fs
    simp only[Bool.and_eq_true,Bool.not_eq_true',List.all_eq_true,beq_iff_eq]at hok
    obtain⟨⟨hall,hlay⟩,hst⟩:=hok
    have hl:lF P t=none:=by simp[lF,hd]
    have hf:fw P t=some (fs.toList.map (·.type)):=by simp[fw,hd]
    rw[hl,hf]at h
    dsimp only at h
    have hag:dD P t=some true:=by simp[dD,hd]
    refine⟨.agg us.toArray,.agg vs.toArray,by simp[qZ,hag],by simp[qZ,hag],?_⟩
    rw[show D+(n+1)=(D+n)+1 from rfl,yB (D+n) _ _ hd hst (fun f hf=>(hall f hf).2)]
    have : ∀(l:List Field)(o:Nat)(b:Bool),(∀f∈l,Ba P n f.type=true)→layout P l o=some (P.cellsOf t)→gb (lZ P n) P (l.map (·.type)) (xs.drop o) (ys.drop o)=some b→o≤P.cellsOf t →
     p8 P (D+n) us.toArray vs.toArray l=some b:=by
     intro l
     induction l with
     | nil=>intro o b _ _ h _;simp[gb]at h;simp[p8,h]
     | cons f l ihl =>
      intro o b hal hlay h ho
      unfold layout at hlay
      split at hlay
      ·rename_i hfo
       simp only[List.map_cons,gb]at h
       cases hz:aU P f.type with
       | none=>rw[hz]at h;cases h
       | some z =>
        rw[hz]at h
        dsimp only at h
        have hcz:P.cellsOf f.type=z:=by simp only[aU]at hz;simp[Program.cellsOf,hz]
        rw[hcz]at hlay
        cases h1:lZ P n f.type ((xs.drop o).take z) ((ys.drop o).take z) with
        | none=>rw[h1]at h;simp at h
        | some a =>
         rw[h1]at h
         cases h2:gb (lZ P n) P (l.map (·.type)) ((xs.drop o).drop z) ((ys.drop o).drop z) with
         | none=>rw[h2]at h;simp at h
         | some c =>
          rw[h2]at h
          simp only[Option.some.injEq]at h
          rw[List.drop_drop,List.drop_drop]at h2
          have hle:o+z≤P.cellsOf t:=by
           have : ∀(l:List Field)(o m:Nat),layout P l o=some m→o≤m:=by
            intro l
            induction l with
            | nil=>intro o m h;simp[layout]at h;omega
            | cons g l ihg =>
             intro o m h
             unfold layout at h
             split at h
             ·have:=ihg _ _ h;omega
             ·cases h
           exact this _ _ _ hlay
          obtain⟨u,v,hu1,hv1,heq⟩:=ih D f.type _ _ _ _ a (hal f (List.mem_cons_self ..)) h1 (vW (vX hu o) z) (vW (vX hv o) z)
           (by rw[List.length_take,List.length_drop,hcz];omega) (by rw[List.length_take,List.length_drop,hcz];omega)
          have hone:dD P f.type=some false→z=1:=by
           intro hagf
           have hk:=hal f (List.mem_cons_self ..)
           cases n with
           | zero=>simp[Ba]at hk
           | succ n' =>
            unfold Ba at hk
            unfold dD at hagf
            cases huf:P.underlying f.type with
            | none=>rw[huf]at hk;simp at hk
            | some d2 =>
             rw[huf]at hk hagf
             cases d2<;>simp at hk hagf<;>(have:=hk.2;rw[hz]at this;simpa using this)
          have p1:=Bm hz (o:=o) hu1 hone
          have p2:=Bm hz (o:=o) hv1 hone
          simp only[p8,hfo,p1,p2,heq]
          cases a with
          | false=>simp at h;simp[h]
          | true =>
           simp only[Bool.true_and]at h
           subst h
           exact ihl (o+z) c (fun g hg=>hal g (List.mem_cons_of_mem _ hg)) hlay h2 hle
      ·cases hlay
    exact this fs.toList 0 b (fun f hf=>(hall f hf).1) hlay (by simpa using h) (Nat.zero_le _)
def Aa(P:Program)(t:TypeId):Bool:=Ba P 20 t && !P.eqGuardType P.depth t&&dD P t == some true
theorem LH{P:Program}{t:TypeId}(h:Aa P t=true)(op:BinOp)(ho:op = .eql∨op = .neq)(xo yo:Operand)(xs ys:Array Value) :
 B8 P op t xo yo (.agg xs) (.agg ys)=(bz P (Op.equalIn 10000 t (.agg xs) (.agg ys))).map fun b => .bool (if op = .eql then b else !b):=by
 unfold Aa at h
 simp only[Bool.and_eq_true,Bool.not_eq_true',beq_iff_eq]at h
 have hp:bz P program=some P:=rfl
 unfold B8
 have hg:bz P (eqGuard op t xo yo (.agg xs) (.agg ys))=some ():=by
  rcases ho with rfl | rfl
  ·simp only[eqGuard,Bool.not_true,Bool.false_eq_true,if_false,bO,hp,Option.bind_some,h.1.2,Bool.not_false,if_true];rfl
  ·simp only[eqGuard,Bool.not_true,Bool.false_eq_true,if_false,bO,hp,Option.bind_some,h.1.2,Bool.not_false,if_true];rfl
 rw[bO,hg,Option.bind_some]
 rcases ho with rfl | rfl
 ·show bz P (do pure (Value.bool (←Op.equal t (.agg xs) (.agg ys))))=_
  rw[bO]
  unfold Op.equal Op.maxDepth
  cases bz P (Op.equalIn 10000 t (.agg xs) (.agg ys))<;>rfl
 ·show bz P (do pure (Value.bool (!(←Op.equal t (.agg xs) (.agg ys)))))=_
  rw[bO]
  unfold Op.equal Op.maxDepth
  cases bz P (Op.equalIn 10000 t (.agg xs) (.agg ys))<;>rfl
theorem yA{P:Program}{t:TypeId}(h:Aa P t=true)(op:BinOp)(ho:op = .eql∨op = .neq)(xo yo:Operand){cs ds:List AV}{b:Bool}(hb:lZ P 20 t cs ds=some b)(hu:(nH cs).isSome=true)(hv:(nH ds).isSome=true)
 (hc:some cs.length=aU P t) (hd:some ds.length=aU P t):aE P op t xo yo (some (.agg cs)) (some (.agg ds))=some (aB (if op = .eql then b else !b),[]):=by
 obtain⟨us,hu⟩:=Option.isSome_iff_exists.1 hu
 obtain⟨vs,hv⟩:=Option.isSome_iff_exists.1 hv
 have h0:=h
 unfold Aa at h0
 simp only[Bool.and_eq_true,Bool.not_eq_true',beq_iff_eq]at h0
 have hl : ∀ {n:Nat},some n=aU P t→n=P.cellsOf t:=by
  intro n hn
  unfold aU at hn
  unfold Program.cellsOf
  rw[←hn];rfl
 obtain⟨u,v,e1,e2,heq⟩:=OJ 20 9980 t cs ds us vs b h0.1.1 hb hu hv (hl hc) (hl hd)
 simp only[qZ,h0.2,Option.some.injEq]at e1 e2
 subst e1;subst e2
 have hpr:=LH h op ho xo yo us.toArray vs.toArray
 rw[heq]at hpr
 have t1:fP (.agg cs)=some (.agg us.toArray):=by show(cs.mapM Eg).map _=_;rw[show cs.mapM Eg=some us from hu];rfl
 have t2:fP (.agg ds)=some (.agg vs.toArray):=by show(ds.mapM Eg).map _=_;rw[show ds.mapM Eg=some vs from hv];rfl
 simp only[aE,HA,mo,Bool.false_and,Bool.or_self,Bool.false_eq_true,if_false,t1,t2,hpr,Option.map_some,Option.bind_some,iB,scalar,if_true,cF]
@[simp] theorem Qy{P:Program}{t:TypeId}(h:Aa P t=true)(xo yo:Operand){cs ds:List AV}(hb:(lZ P 20 t cs ds).isSome=true)(hu:(nH cs).isSome=true)(hv:(nH ds).isSome=true)
 (hc:some cs.length=aU P t) (hd:some ds.length=aU P t):aE P .eql t xo yo (some (.agg cs)) (some (.agg ds))=some (aB ((lZ P 20 t cs ds).getD false),[]):=by
 obtain⟨b,hb⟩:=Option.isSome_iff_exists.1 hb
 rw[yA h .eql (.inl rfl) xo yo hb hu hv hc hd,hb];rfl
@[simp] theorem Qw{P:Program}{t:TypeId}(h:Aa P t=true)(xo yo:Operand){cs ds:List AV}(hb:(lZ P 20 t cs ds).isSome=true)(hu:(nH cs).isSome=true)(hv:(nH ds).isSome=true)
 (hc:some cs.length=aU P t) (hd:some ds.length=aU P t):aE P .neq t xo yo (some (.agg cs)) (some (.agg ds))=some (aB (!(lZ P 20 t cs ds).getD false),[]):=by
 obtain⟨b,hb⟩:=Option.isSome_iff_exists.1 hb
 rw[yA h .neq (.inr rfl) xo yo hb hu hv hc hd,hb];rfl
@[simp] theorem VZ:nH []=some []:=id rfl
@[simp] theorem Gw(k:IntKind)(n:Int)(l:List AV):nH (.v (.int k n) :: l)=(nH l).map (.int k n :: ·):=by
 unfold nH;simp only[List.mapM_cons,Eg];cases l.mapM Eg<;>rfl
@[simp] theorem Ut(b:Bool)(l:List AV):nH (.v (.bool b) :: l)=(nH l).map (.bool b :: ·):=by
 unfold nH;simp only[List.mapM_cons,Eg];cases l.mapM Eg<;>rfl
@[simp] theorem aap(b:UInt8)(l:List AV):nH (a8 b :: l)=(nH l).map (.int .u8 b.toNat :: ·):=Gw _ _ _
@[simp] theorem YL(b:UInt32)(l:List AV):nH (aG b :: l)=(nH l).map (.int .u32 b.toNat :: ·):=Gw _ _ _
@[simp] theorem Ss(a b:Bool):xD [aB a] [aB b]=some (decide (a=b)):=id rfl
@[simp] theorem CN(k:IntKind)(a b:Int):xD [.v (.int k a)] [.v (.int k b)]=some (decide (a=b)):=by simp[xD]
@[simp] theorem Ya(a b:UInt8):xD [a8 a] [a8 b]=some (decide (a=b)):=by
 unfold a8;rw[CN];congr 2;rw[←UInt8.toNat_inj];exact propext (by omega)
@[simp] theorem VA(a b:UInt32):xD [aG a] [aG b]=some (decide (a=b)):=by
 unfold aG;rw[CN];congr 2;rw[←UInt32.toNat_inj];exact propext (by omega)
@[simp] theorem Tq(b:Bool):EM (aB b)=0:=id rfl
@[simp] theorem Vm(k:IntKind)(n:Int):EM (.v (.int k n))=1:=id rfl
@[simp] theorem ZI(b:UInt8):EM (a8 b)=1:=id rfl
@[simp] theorem Xw(b:UInt32):EM (aG b)=1:=id rfl
end Go.Ab
namespace Go.Ab
@[simp] theorem B3{P:Program}{t:TypeId}(h:((dY P t).bind (aU P)).isSome=true)(g:dk)(lo hi mx:Option Int) :
 eQ P g t (some cP) (some lo) (some hi) (some mx)=(bounds 0 (some 0) lo hi mx).map fun _=>(cP,[]):=by
 simp only[eQ,h,if_true]
@[simp] theorem Jb{P:Program}{t z:Nat}(h:(dY P t).bind (aU P)=some z)(g:dk)(es:List AV)(c:Option Nat)(lo hi mx:Option Int) :
 eQ P g t (some (.cw z es c)) (some lo) (some hi) (some mx)=(bounds es.length c lo hi mx).map fun(l,h,c)=>(.cw z ((es.drop l).take (h - l)) c,[]):=by
 simp only[eQ,h,if_true]
theorem BV{P:Program}{t z:Nat}(h:(dY P t).bind (aU P)=some z)(g:dk){es:List AV}{x:AV}(hx:Sl z es x){n:Int}(h0:0≤n)(hn:n≤es.length) :
 ∃y,eQ P g t (some x) (some none) (some (some n)) (some none)=some (y,[])∧Sl z (es.take n.toNat) y:=by
 rcases hx with ⟨rfl,rfl⟩ | ⟨c,rfl,hcap⟩
 ·refine⟨cP,?_,.inl ⟨rfl,by simp⟩⟩
  rw[B3 (by rw[h];rfl)]
  have:n=0:=by simp at hn;omega
  subst this;rfl
 ·refine⟨.cw z (es.take n.toNat) (c.map (· - 0)),?_,.inr ⟨_,rfl,by cases c with | none=>simp | some k=>simp at hcap ⊢;omega⟩⟩
  rw[Jb h]
  simp only[bounds,Option.getD_none,Option.getD_some,Int.le_refl,true_and,if_pos (show 0≤n∧n≤es.length from⟨h0,hn⟩),Option.map_some]
  simp
def sB(l:List UInt8):AV:=aS ⟨l.toArray⟩
theorem OW{P:Program}{draw wk:Bool}{H:ab}{r:Ref}{t z by' n:Nat}{ps:List (Nat × AV)}{zz:AV}(hT:T6 P t z by'=true)(hsz:n * z≤16777216)(hv:eT H.get ps=some ps)(hrf:ck H.get (ps.map (·.2))=[])
 (hc:ps.all (fun p=>p.2.cells.length == z&&p.2.cells.all AV.one)=true) (hz:(dY P t).bind (eG P)=some zz) {es:List AV} (hf:fZ (List.replicate n zz) ps=some es) :
 fa P draw wk H r t n (some ps)=if draw then some (.cw z es (some n),H) else some (.cM r 0 n (some n),({ r with k:=0},some ⟨z,es,true,false⟩) :: H):=by
 obtain⟨e,zz',h1,h2,h3,h4,h5,h6,h7,h8⟩:=jk hT
 rw[h1]at hz
 simp only[Option.bind_some,h4,Option.some.injEq]at hz
 subst hz
 have hmk:mkSlice P H.get t n ps=some ⟨z,es,true,false⟩:=by
  simp only[mkSlice,h1,hv,h4,h2]
  rw[if_pos ⟨Nat.pos_of_ne_zero h7,hsz,h5,h6,by simpa using hc⟩,hf]
  rfl
 have hq:fG P draw H.get r t n (some ps)=if draw then some (.cw z es (some n),[]) else some (.cM r 0 n (some n),[⟨z,es,true,false⟩]):=by
  simp only[fG,hrf,ic,List.all_nil,if_true,hmk,Option.map_some]
  cases draw<;>rfl
 unfold fa
 rw[hq]
 cases draw<;>rfl
theorem Ef{g:dk}{r:Ref}{z:Nat}{es:List AV}{fz:Bool}(hr:g r=some ⟨z,es,true,fz⟩){n:Nat}(hn:n=es.length)(k:Nat)(c:Option Nat):view g (k+1) (.cM r 0 n c)=some (.cw z es c):=by
 subst hn
 rw[Bx hr,if_pos ⟨rfl,by simp⟩,List.drop_zero,List.take_length]
theorem Own.cV{z:Nat}{es:List AV}{H H':ab}{x s s':AV}(h:Own z es H x)(hp : ∀q b,H.get q=some b→s.at?≠some q→H'.get q=some b∧s'.at?≠some q)(hne : ∀q,x.at?=some q→s.at?≠some q):Own z es H' x ∧∀q,x.at?=some q→s'.at?≠some q:=by
 rcases h with ⟨rfl,rfl⟩ | ⟨r,rfl,hr⟩
 ·exact⟨Ks z H',fun q hq=>by simp[AV.at?]at hq⟩
 ·obtain⟨h1,h2⟩:=hp r _ hr (hne r rfl)
  exact⟨.inr ⟨r,rfl,h1⟩,fun q hq=>by simp only[AV.at?,Option.some.injEq]at hq;subst hq;exact h2⟩
theorem Jy{P:Program}{t:TypeId}(h:isBool P t=true):P.underlying t=some .bool:=by
 unfold isBool at h
 split at h
 ·assumption
 ·cases h
theorem DH{P:Program}{t:TypeId}(h:isBool P t=true)(d:Nat)(a b:Bool):bz P (Op.equalIn (d+1) t (.bool a) (.bool b))=some (a == b):=by
 simp only[Op.equalIn,bO,kb (Jy h),Option.bind_some]
 rfl
theorem Jh{P:Program}{t:TypeId}(h:isBool P t=true)(op:BinOp)(ho:op = .eql∨op = .neq)(xo yo:Operand)(a b:Bool) :
 B8 P op t xo yo (.bool a) (.bool b)=some (.bool (if op = .eql then a == b else !(a == b))):=by
 have he:bz P (Op.equal t (.bool a) (.bool b))=some (a == b):=DH h 9999 a b
 unfold B8
 rcases ho with rfl | rfl
 ·have:bz P (eqGuard .eql t xo yo (.bool a) (.bool b))=some ():=rfl
  rw[bO,this,Option.bind_some]
  show bz P (do pure (Value.bool (←Op.equal t (.bool a) (.bool b))))=_
  rw[bO,he];rfl
 ·have:bz P (eqGuard .neq t xo yo (.bool a) (.bool b))=some ():=rfl
  rw[bO,this,Option.bind_some]
  show bz P (do pure (Value.bool (!(←Op.equal t (.bool a) (.bool b)))))=_
  rw[bO,he];rfl
@[simp] theorem Pp{P:Program}{t:TypeId}(h:isBool P t=true)(xo yo:Operand)(a b:Bool):aE P .eql t xo yo (some (aB a)) (some (aB b))=some (aB (a == b),[]):=by
 simp only[aE,HA,mo,fP,Jh h .eql (.inl rfl),Bool.false_and,Bool.or_self,Bool.false_eq_true,if_false,Option.bind_some,iB,scalar,if_true,cF,Option.map_some]
@[simp] theorem aaC(P:Program)(d:Bool)(g:dk)(r:Ref)(ts:Array TypeId)(k:IntKind)(a b:Int):aJ P d g r .min ts [.v (.int k a),.v (.int k b)]=some (.v (.int k (if b<a then b else a)),[]):=id rfl
@[simp] theorem aaD(P:Program)(d:Bool)(g:dk)(r:Ref)(ts:Array TypeId)(k:IntKind)(a b:Int):aJ P d g r .max ts [.v (.int k a),.v (.int k b)]=some (.v (.int k (if b>a then b else a)),[]):=id rfl
theorem Own.cons{z:Nat}{es:List AV}{H:ab}{x:AV}(h:Own z es H x)(hF:Fr H)(d t:Nat)(b:Option bN):Own z es ((⟨d,t,H.gen d t,0⟩,b) :: H) x:=by
 rcases h with ⟨rfl,rfl⟩ | ⟨r,rfl,hr⟩
 ·exact Ks z _
 ·refine .inr ⟨r,rfl,?_⟩
  rw[ab.po,if_neg (pS hF (by rw[hr];rfl) d t 0)]
  exact hr
theorem Own.BV{P:Program}{t z:Nat}(h:(dY P t).bind (aU P)=some z){H:ab}{es:List AV}{x:AV}(hx:Own z es H x){n:Nat}(hn:n≤es.length) :
 ∃y y',eQ P H.get t (some x) (some none) (some (some (n:Int))) (some none)=some (y,[])∧Ab.view H.get depth y=some y'∧Sl z (es.take n) y':=by
 rcases hx with ⟨rfl,rfl⟩ | ⟨r,rfl,hr⟩
 ·refine⟨cP,cP,?_,rfl,.inl ⟨rfl,by simp⟩⟩
  rw[B3 (by rw[h];rfl)]
  have:n=0:=by simpa using hn
  subst this;rfl
 ·refine⟨.cM r 0 n none,.cw z (es.take n) none,?_,?_,Sl.mk z _⟩
  ·simp only[eQ,hr,h,if_true,bounds,Option.getD_none,Option.getD_some,Int.le_refl,true_and]
   rw[if_pos ⟨by omega,by omega⟩]
   simp
  ·rw[bD,Bx hr,if_pos ⟨rfl,by simpa using hn⟩,List.drop_zero]
end Go.Ab
namespace Go.Ab
@[simp] theorem U4(P:Program)(r:Ref)(e:TypeId){z:AV}(hz:eG P e=some z)(h0:0<(aU P e).getD 0):bY P r e=if some z.cells.length=aU P e∧z.cells.all AV.one=true then some (.ptr r 0 0,[⟨(aU P e).getD 0,[z],false,false⟩]) else none:=by
 unfold bY
 rw[hz]
 cases h:aU P e with
 | none=>simp
 | some n=>rw[h]at h0;simp only[Option.getD_some]at h0;simp[h0]
@[simp] theorem NL{P:Program}{t f:Nat}(h:0<((aL P t f).getD (0,0)).2)(r:Ref)(i j:Nat):aa P t (some (.ptr r i j)) f=some (.ptr r i (j+((aL P t f).getD (0,0)).1),[]):=by
 unfold aa
 cases hf:aL P t f with
 | none=>rw[hf]at h;simp at h
 | some p=>obtain⟨o,s⟩:=p;rw[hf]at h;simp only[Option.getD_some]at h ⊢;rw[if_pos h]
@[simp] theorem My{P:Program}{t f:Nat}(h:0<((aL P t f).getD (0,0)).2)(n:Nat)(es:List AV)(i j:Nat):aa P t (some (.iptr n es i j)) f=some (.iptr n es i (j+((aL P t f).getD (0,0)).1),[]):=by
 unfold aa
 cases hf:aL P t f with
 | none=>rw[hf]at h;simp at h
 | some p=>obtain⟨o,s⟩:=p;rw[hf]at h;simp only[Option.getD_some]at h ⊢;rw[if_pos h]
def Kr(cs:List AV)(off n:Nat)(ag:Bool):Option AV:=if ag then (if off+n≤cs.length then some (.agg ((cs.drop off).take n)) else none) else cs[off]?
@[simp] theorem Zz(cs:List AV)(off n:Nat):Kr cs off n true=if off+n≤cs.length then some (.agg ((cs.drop off).take n)) else none:=id rfl
@[simp] theorem ZA(cs:List AV)(off n:Nat):Kr cs off n false=cs[off]?:=id rfl
@[simp] theorem S2{P:Program}{t f:Nat}(h:(((me P t f).bind fun p=>aU P p.2).isSome&&((me P t f).bind fun p=>dD P p.2).isSome)=true)(cs:List AV) :
 lC P t (some (.agg cs)) f=cF (Kr cs ((me P t f).getD (0,0)).1 ((aU P ((me P t f).getD (0,0)).2).getD 0) ((dD P ((me P t f).getD (0,0)).2).getD false)):=by
 unfold lC
 cases hf:me P t f with
 | none=>rw[hf]at h;simp at h
 | some p =>
  obtain⟨o,ft⟩:=p
  rw[hf]at h
  simp only[Option.bind_some,Bool.and_eq_true]at h
  obtain⟨n,hn⟩:=Option.isSome_iff_exists.1 h.1
  obtain⟨b,hb⟩:=Option.isSome_iff_exists.1 h.2
  simp only[Option.getD_some,u6,hn,hb]
  cases b<;>rfl
@[simp] theorem Pk(cs:List AV)(new:List AV)(h:new.length=cs.length):fb [AV.agg cs] 0 0 new=some [AV.agg new]:=by
 simp[fb,oE,patch,h]
@[simp low] theorem PC(cs:List AV)(j:Nat)(new:List AV)(h:j+new.length≤cs.length):fb [AV.agg cs] 0 j new=some [AV.agg (patch cs j new)]:=by
 simp[fb,oE,h]
@[simp] theorem Xg(cs:List AV)(j:Nat)(new:List AV):patch cs j new=cs.take j++new++cs.drop (j+new.length):=id rfl
@[simp] theorem Qp{P:Program}{t:TypeId}(ha:(dD P t).isSome=true)(hn:(aU P t).isSome=true)(H:ab)(r:Ref)(i j:Nat):du P H (.ptr r i j) t=Om (H.get r) i j ((aU P t).getD 0) ((dD P t).getD false):=by
 obtain⟨a,ha⟩:=Option.isSome_iff_exists.1 ha
 obtain⟨n,hn⟩:=Option.isSome_iff_exists.1 hn
 simp only[du,ha,hn,Option.getD_some]
 rfl
@[simp] theorem Po{P:Program}{t:TypeId}{z:List AV}(hz:eG P t=some (.agg z))(ht:iy P t=none)(hp:(fu P t).isSome=true)(vs:List (Nat × AV)) :
 cK P t (some vs)=(kE (fun i=>((fu P t).getD [])[i]?) z vs).map fun cs=>(.agg cs,[]):=by
 obtain⟨ps,hp⟩:=Option.isSome_iff_exists.1 hp
 simp only[cK,hz,ht,hp,Option.getD_some]
@[simp] theorem Qs(vs:List AV)(i:Nat):aF (some (.tup vs)) i=cF vs[i]?:=id rfl
@[simp] theorem Xb(r:Ref)(i j:Nat):jX (some (.ptr r i j))=some (.ptr r i j,[]):=id rfl
@[simp] theorem ab.QV(d t:Nat):ab.gen [] d t=0:=id rfl
@[simp] theorem ab.HM(d t g k:Nat)(b:Option bN)(H:ab)(d' t':Nat):ab.gen ((⟨d,t,g,k⟩,b) :: H) d' t'=if d=d'∧t=t' then g+1 else ab.gen H d' t':=id rfl
end Go.Ab
namespace Go.Ab
@[simp] theorem Hn{α β:Type}(f:α→Option β)(a:α)(l:List α):List.mapM f (a :: l)=(f a).bind fun b=>(List.mapM f l).map (b :: ·):=by
 rw[List.mapM_cons];cases f a<;>cases List.mapM f l<;>rfl
@[simp] theorem SW{α:Type}(f:α→AV)(l:List α)(i j n:Nat)(ag:Bool):eL (l.map f) i j n ag=(l[i]?).bind fun a=>eL [f a] 0 j n ag:=by
 unfold eL
 rw[List.getElem?_map]
 cases l[i]?<;>rfl
theorem drop_cons{α:Type}{l:List α}{k:Nat}{a:α}{s:List α}(h:l.drop k=a :: s) : ∃hk:k<l.length,l[k]=a∧l.drop (k+1)=s∧l[k]?=some a:=by
 have hk:k<l.length:=by
  have:=congrArg List.length h
  simp at this;omega
 rw[List.drop_eq_getElem_cons hk]at h
 cases h
 exact⟨hk,rfl,rfl,List.getElem?_eq_getElem hk⟩
theorem drop_nil{α:Type}{l:List α}{k:Nat}(h:l.drop k=[])(hk:k≤l.length):k=l.length:=by
 have:=congrArg List.length h
 simp at this;omega
theorem kC{b:Bool}{q:gz}{K:AV→Prop}{m:Mk (q,K)}(h1:b=true→ak q K)(h2:b=false→K AV.undef):gQ (aB b) true q K m:=by
 cases b
 ·exact(X2 q K m).2 (h2 rfl)
 ·exact(X0 q K m).2 (h1 rfl)
theorem kD{b:Bool}{q:gz}{K:AV→Prop}{m:Mk (q,K)}(h1:b=true→K AV.undef)(h2:b=false→ak q K):gQ (aB b) false q K m:=by
 cases b
 ·exact(X3 q K m).2 (h2 rfl)
 ·exact(X1 q K m).2 (h1 rfl)
theorem kA{b:Bool}{H:ab}{q:dz}{K:AV→ab→Prop}{m:Mk (q,K)}(h1:b=true→aO q K)(h2:b=false→K AV.undef H):gW (aB b) true H q K m:=by
 cases b
 ·exact(XY H q K m).2 (h2 rfl)
 ·exact(XW H q K m).2 (h1 rfl)
theorem kB{b:Bool}{H:ab}{q:dz}{K:AV→ab→Prop}{m:Mk (q,K)}(h1:b=true→K AV.undef H)(h2:b=false→aO q K):gW (aB b) false H q K m:=by
 cases b
 ·exact(XZ H q K m).2 (h2 rfl)
 ·exact(XX H q K m).2 (h1 rfl)
theorem ah{H:ab}(hF:Fr H){q:Ref}(h:(H.get q).isSome=true)(d t k:Nat):((⟨d,t,H.gen d t,k⟩:Ref)=q)=False :=
 eq_false (pS hF h d t k)
theorem ai{H:ab}(hF:Fr H){q:Ref}(h:(H.get q).isSome=true)(d t k:Nat):(q=(⟨d,t,H.gen d t,k⟩:Ref))=False :=
 eq_false fun e=>pS hF h d t k e.symm
theorem ar{H:ab}(hF:Fr H)(d t k:Nat):H.get ⟨d,t,H.gen d t,k⟩=none:=hF _ _ _ _ (Nat.le_refl _)
theorem aq{H:ab}(hF:Fr H){d t g:Nat}(hg:g=H.gen d t)(b:Option bN):Fr ((⟨d,t,g,0⟩,b) :: H):=by subst hg;exact hF.cons d t b
theorem aD{H:ab}(hF:Fr H){r:Ref}(hr:(H.get r).isSome=true)(b:Option bN):Fr (H.put r b):=hF.put b hr
theorem ad{H:ab}{r:Ref}(hr:(H.get r).isSome=true)(b:Option bN)(d t:Nat):(H.put r b).gen d t=H.gen d t:=ab.kz H r b hr d t
theorem L7{E:Env}{f:FuncId}(hm:vj (E.mode f)=false)(x:AV)(H:ab)(y:AV):handed E f x H y↔view H.get depth x=some y:=by
 unfold handed
 rw[if_neg (by simpa using hm)]
theorem HK{E:Env}{f:FuncId}(hm:vj (E.mode f)=true)(x:AV)(H:ab)(y:AV):handed E f x H y↔(aH H.get depth x).Nodup∧dN H.get depth x=some y:=by
 unfold handed
 rw[if_pos (by simpa using hm)]
def vB(wk:Bool)(H:ab)(r:Ref)(refs:List Ref)(o:Option AV):dz:=match o with
 | some y=>if flat depth y||ic H.get refs then some ((aN r depth y []).1,keyed r 0 (aN r depth y []).2 H)
  else if wk then some ((aN r depth y []).1,keyed r 0 (aN r depth y []).2 (cq H refs)) else none
 | none=>none
noncomputable def OU(E:Env)(wk:Bool)(H:ab)(r:Ref)(refs:List Ref)(f:FuncId)(o:Option (List AV)):dz:=match o with
 | some xs=>vB wk H r refs (bj E f xs)
 | none=>none
theorem bp{E:Env}(wk:Bool)(dep:Nat)(H:ab)(r:Ref)(f:FuncId)(hm:(E.mode f == 2)=false)(hm3:(E.mode f == 3)=false)(first captured args:List AV) :
 bo E wk (bj E) (bV E dep) H r (some (.fn (.func f) first captured)) args=OU E wk H r (ck H.get (first++args++captured)) f ((first++args++captured).mapM (view H.get depth)):=by
 have hm':E.mode f≠2:=by simpa using hm
 simp only[bo,ik,kJ,if_neg hm',hm3,Bool.false_and,Bool.or_false]
 cases(first++args++captured).mapM (view H.get depth) with
 | none=>cases wk<;>rfl
 | some xs =>
  dsimp only[OU]
  cases bj E f xs with
  | none=>cases wk<;>rfl
  | some y =>
   dsimp only[vB,Option.map_some]
   cases hc:(flat depth y||ic H.get (ck H.get (first++args++captured))) with
   | true=>rfl
   | false=>cases wk<;>rfl
theorem HD(r:Ref)(n:Nat)(t:TypeId)(x:AV)(bs:List bN):aN r (n+1) (.ifc t x) bs=(.ifc t (aN r n x bs).1,(aN r n x bs).2):=id rfl
@[simp] theorem Uc(E:Env)(wk:Bool)(H:ab)(r:Ref)(refs:List Ref)(f:FuncId)(xs:List AV):OU E wk H r refs f (some xs)=vB wk H r refs (bj E f xs):=id rfl
@[simp] theorem Ud(wk:Bool)(H:ab)(r:Ref)(refs:List Ref)(y:AV)(h:flat depth y=true):vB wk H r refs (some y)=some (y,H):=by
 simp only[vB,h,Bool.true_or,if_true]
 rw[ry r depth depth y [] h]
 rfl
theorem bl(wk:Bool)(H:ab)(r:Ref)(y:AV):vB wk H r [] (some y)=some ((aN r depth y []).1,keyed r 0 (aN r depth y []).2 H):=by
 simp only[vB,ic,List.all_nil,Bool.or_true,if_true]
theorem bC(wk:Bool)(H:ab)(r:Ref)(refs:List Ref)(y:AV)(h:ic H.get refs=true):vB wk H r refs (some y)=some ((aN r depth y []).1,keyed r 0 (aN r depth y []).2 H):=by
 simp only[vB,h,Bool.or_true,if_true]
@[simp] theorem aaK(n:Nat)(x:Value):flat (n+1) (.v x)=true:=id rfl
@[simp] theorem aaL(n:Nat)(x:UInt8):flat (n+1) (a8 x)=true:=id rfl
@[simp] theorem ZO(n:Nat)(x:UInt32):flat (n+1) (aG x)=true:=id rfl
@[simp] theorem X8(n:Nat)(cs:List AV):flat (n+1) (.agg cs)=cs.all (flat n):=id rfl
@[simp] theorem Vz(n:Nat)(cs:List AV):flat (n+1) (.tup cs)=cs.all (flat n):=id rfl
@[simp] theorem X6(n:Nat)(t:TypeId)(x:AV):flat (n+1) (.ifc t x)=flat n x:=id rfl
@[simp] theorem X5(n z:Nat)(es:List AV)(c:Option Nat):flat (n+1) (.cw z es c)=false:=id rfl
@[simp] theorem X7(n z:Nat)(es:List AV)(c:Option Nat):flat (n+1) (.fsl z es c)=false:=id rfl
@[simp] theorem RD(g:dk):ck g []=[]:=id rfl
@[simp] theorem Qo(g:dk)(x:AV)(xs:List AV):ck g (x :: xs)=aH g depth x++ck g xs:=id rfl
@[simp] theorem SB(g:dk)(n:Nat)(x:Value):aH g n (.v x)=[]:=by cases n<;>rfl
@[simp] theorem SC(g:dk)(n:Nat)(x:UInt8):aH g n (a8 x)=[]:=by cases n<;>rfl
@[simp] theorem Rt(g:dk)(n:Nat)(x:UInt32):aH g n (aG x)=[]:=by cases n<;>rfl
@[simp] theorem PI(g:dk)(n z:Nat)(es:List AV)(c:Option Nat):aH g n (.cw z es c)=[]:=by cases n<;>rfl
@[simp] theorem Pl(g:dk)(n z:Nat)(es:List AV)(i j:Nat):aH g n (.iptr z es i j)=[]:=by cases n<;>rfl
@[simp] theorem PJ(g:dk)(n:Nat)(cs:List AV):aH g (n+1) (.agg cs)=cs.flatMap (aH g n):=id rfl
@[simp] theorem PF(g:dk)(n:Nat)(cs:List AV):aH g (n+1) (.tup cs)=cs.flatMap (aH g n):=id rfl
@[simp] theorem PH(g:dk)(n:Nat)(r:Ref)(o l:Nat)(c:Option Nat):aH g (n+1) (.cM r o l c)=[r]:=id rfl
@[simp] theorem Rs(g:dk)(n:Nat)(f:Fn)(a b:List AV):aH g (n+1) (.fn f a b)=a.flatMap (aH g n)++b.flatMap (aH g n):=id rfl
def Ko(g:dk)(n:Nat)(o:Option bN):List Ref:=match o with
 | some b=>if b.arr then [] else b.es.flatMap (aH g n)
 | none=>[]
@[simp] theorem PG(g:dk)(n:Nat)(r:Ref)(i j:Nat):aH g (n+1) (.ptr r i j)=r :: Ko g n (g r):=id rfl
@[simp] theorem Qz(g:dk)(n:Nat)(b:bN):Ko g n (some b)=if b.arr then [] else b.es.flatMap (aH g n):=id rfl
def Rv(o l:Nat)(c:Option Nat)(b:Option bN):Option AV:=match b with
 | some b=>if b.arr=true∧o+l≤b.es.length then some (.cw b.esz ((b.es.drop o).take l) c) else none
 | none=>none
@[simp] theorem Ur(g:dk)(n:Nat)(r:Ref)(o l:Nat)(c:Option Nat):view g (n+1) (.cM r o l c)=Rv o l c (g r):=id rfl
@[simp] theorem SE(o l:Nat)(c:Option Nat)(b:bN):Rv o l c (some b)=if b.arr=true∧o+l≤b.es.length then some (.cw b.esz ((b.es.drop o).take l) c) else none:=id rfl
def Ru(g:dk)(n i j:Nat)(b:Option bN):Option AV:=match b with
 | some b=>if b.arr then some (.iptr b.esz b.es i j) else (b.es.mapM (view g n)).map fun es => .iptr b.esz es i j
 | none=>none
@[simp] theorem Uq(g:dk)(n:Nat)(r:Ref)(i j:Nat):view g (n+1) (.ptr r i j)=Ru g n i j (g r):=id rfl
@[simp] theorem SD(g:dk)(n i j:Nat)(b:bN):Ru g n i j (some b)=if b.arr then some (.iptr b.esz b.es i j) else (b.es.mapM (view g n)).map fun es => .iptr b.esz es i j:=id rfl
@[simp] theorem YF(g:dk)(n:Nat)(f:Fn)(a b:List AV):view g (n+1) (.fn f a b)=(a.mapM (view g n)).bind fun a=>(b.mapM (view g n)).map fun b => .fn f a b:=by
 rw[view]
 cases a.mapM (view g n)<;>cases b.mapM (view g n)<;>rfl
@[simp] theorem XR(r:Ref)(n:Nat)(x:Value)(bs:List bN):aN r n (.v x) bs=(.v x,bs):=by cases n<;>rfl
@[simp] theorem XS(r:Ref)(n:Nat)(x:UInt8)(bs:List bN):aN r n (a8 x) bs=(a8 x,bs):=by cases n<;>rfl
@[simp] theorem Vv(r:Ref)(n:Nat)(x:UInt32)(bs:List bN):aN r n (aG x) bs=(aG x,bs):=by cases n<;>rfl
@[simp] theorem TH(r:Ref)(n z:Nat)(es:List AV)(c:Option Nat)(bs:List bN):aN r n (.cw z es c) bs=(.cw z es c,bs):=by cases n<;>rfl
@[simp] theorem TI(r:Ref)(n z:Nat)(es:List AV)(c:Option Nat)(bs:List bN)(hz:z≠0):aN r (n+1) (.fsl z es c) bs=(.cM { r with k:=bs.length} 0 es.length c,bs++[⟨z,es,true,false⟩]):=by
 simp only[aN,if_neg hz]
def pU(r:Ref)(n:Nat):List AV→List AV→List bN→List AV × List bN
 | [],acc,bs=>(acc,bs)
 | c :: cs,acc,bs=>pU r n cs (acc++[(aN r n c bs).1]) (aN r n c bs).2
theorem Cz(r:Ref)(n:Nat)(cs:List AV) : ∀(acc:List AV)(bs:List bN),cs.foldl (fun(p:List AV × List bN) c=>let (y,bs):=aN r n c p.2;(p.1++[y],bs)) (acc,bs)=pU r n cs acc bs:=by
 induction cs with
 | nil=>intro acc bs;rfl
 | cons c cs ih=>intro acc bs;rw[List.foldl_cons];exact ih _ _
@[simp] theorem TJ(r:Ref)(n:Nat)(cs:List AV)(bs:List bN):aN r (n+1) (.agg cs) bs=(.agg (pU r n cs [] bs).1,(pU r n cs [] bs).2):=by
 rw[←Cz];rfl
@[simp] theorem TG(r:Ref)(n:Nat)(cs:List AV)(bs:List bN):aN r (n+1) (.tup cs) bs=(.tup (pU r n cs [] bs).1,(pU r n cs [] bs).2):=by
 rw[←Cz];rfl
@[simp] theorem RJ(r:Ref)(n:Nat)(acc:List AV)(bs:List bN):pU r n [] acc bs=(acc,bs):=id rfl
@[simp] theorem QR(r:Ref)(n:Nat)(c:AV)(cs acc:List AV)(bs:List bN):pU r n (c :: cs) acc bs=pU r n cs (acc++[(aN r n c bs).1]) (aN r n c bs).2:=id rfl
@[simp] theorem Pu(H:ab):cq H []=H:=id rfl
def KL(H:ab)(r:Ref)(b:Option bN):ab:=match b with
 | some b=>H.put r (some { b with jb:=true})
 | none=>H
@[simp] theorem OA(H:ab)(r:Ref)(rs:List Ref):cq H (r :: rs)=cq (KL H r (H.get r)) rs:=by
 show(match H.get r with | some b=>cq (H.put r (some { b with jb:=true})) rs | none=>cq H rs)=_
 cases H.get r<;>rfl
@[simp] theorem QW(H:ab)(r:Ref)(b:bN):KL H r (some b)=H.put r (some { b with jb:=true}):=id rfl
def KO(l:Nat)(c:Option Nat)(b:Option bN):Option AV:=match b with
 | some b=>if b.arr=true∧l≤b.es.length then some (if b.jb then .cw b.esz (b.es.take l) c else .fsl b.esz (b.es.take l) c) else none
 | none=>none
@[simp] theorem TW(g:dk)(n:Nat)(r:Ref)(l:Nat)(c:Option Nat):dN g (n+1) (.cM r 0 l c)=KO l c (g r):=id rfl
@[simp] theorem Q7(l:Nat)(c:Option Nat)(b:bN):KO l c (some b)=if b.arr=true∧l≤b.es.length then some (if b.jb then .cw b.esz (b.es.take l) c else .fsl b.esz (b.es.take l) c) else none:=id rfl
@[simp] theorem X9(g:dk)(n:Nat)(x:Value):dN g (n+1) (.v x)=some (.v x):=id rfl
@[simp] theorem TX(g:dk)(n:Nat)(cs:List AV):dN g (n+1) (.agg cs)=(cs.mapM (dN g n)).map .agg:=id rfl
@[simp] theorem TV(g:dk)(n:Nat)(cs:List AV):dN g (n+1) (.tup cs)=(cs.mapM (dN g n)).map .tup:=id rfl
theorem Sl.idx{z:Nat}{es:List AV}{x:AV}(h:Sl z es x){P:Program}{t:TypeId}(ht:(dY P t).bind (aU P)=some z)(g:dk)(kd:IntKind)(k:Int) :
 aM P g t (some x) (some (.v (.int kd k)))=if 0≤k∧k<es.length then some (.iptr z es k.toNat 0,[]) else none:=by
 rcases h with ⟨rfl,rfl⟩ | ⟨c,rfl,_⟩
 ·obtain⟨e,he,hz⟩:=Ia ht
  rw[if_neg (by simp)]
  simp[aM,intOf,he]
 ·exact B6 ht g es c kd k
theorem Sl.exp{z:Nat}{es:List AV}{x:AV}(h:Sl z es x)(g:dk)(n:Nat):dN g (n+1) x=some x:=by
 rcases h with ⟨rfl,rfl⟩ | ⟨c,rfl,_⟩<;>rfl
theorem Sl.imp'{z:Nat}{es:List AV}{x:AV}(h:Sl z es x)(r:Ref)(n:Nat)(bs:List bN):aN r n x bs=(x,bs):=by
 rcases h with ⟨rfl,rfl⟩ | ⟨c,rfl,_⟩<;>cases n<;>rfl
theorem Sl.r{z:Nat}{es:List AV}{x:AV}(h:Sl z es x):rq x=some es.length∧(∀g n,Ab.view g (n+1) x=some x)∧(∀g n,aH g n x=[])∧x.cells=[x]∧x.one=true∧(∀g n,dN g (n+1) x=some x)∧(∀r n bs,aN r n x bs=(x,bs)) :=
 ⟨h.len,h.view,h.refs,h.cells.1,h.cells.2,h.exp,h.imp'⟩
@[simp] theorem abf(z:Nat)(es es':List AV)(c:Option Nat):Sl z es (.cw z es' c)↔es=es'∧es.length≤c.getD es.length:=by
 constructor
 ·rintro(⟨e,_⟩ | ⟨c',e,h⟩)
  ·cases e
  ·cases e;exact⟨rfl,h⟩
 ·rintro⟨rfl,h⟩;exact .inr ⟨c,rfl,h⟩
@[simp] theorem abe(z:Nat)(es:List AV):Sl z es cP↔es=[]:=by
 constructor
 ·rintro(⟨_,e⟩ | ⟨c',e,h⟩)
  ·exact e
  ·cases e
 ·rintro rfl;exact .inl ⟨rfl,rfl⟩
@[simp] theorem at_nil:cP.at?=none:=id rfl
@[simp] theorem aa5(r:Ref)(o n:Nat)(c:Option Nat):(AV.cM r o n c).at?=some r:=id rfl
theorem O4{P:Program}{t t' z by':Nat}(hT:T6 P t z by'=true)(hA:Dl P t'=true)(wk:Bool)(H:ab)(r:Ref){new:List AV}{x:AV}(hx:Ro H.get z new x)(hn:new≠[])(hb:new.length * by'≤cg) :
 cS P wk H r (some t) (some t') cP x=some (.cM r 0 new.length none,({ r with k:=0},some ⟨z,new,true,false⟩) :: H):=by
 obtain⟨e,zz,h1,h2,h3,h4,h5,h6,h7,h8⟩:=jk hT
 have hnew:=hx.mq hT h1
 unfold Dl at hA
 simp only[Bool.and_eq_true,Bool.not_eq_true']at hA
 have hun:(P.underlying t').isNone=false:=by cases h:P.underlying t' with | none=>rw[h]at hA;simp at hA | some d=>rfl
 have hc : ¬((P.underlying t').isNone=true∨isInt P t'≠isNum x):=by
  rw[hun,hA.2,hx.num];simp
 have hd : ¬(z≠z∨z=0∨by'=0∨zz.cells.length≠z):=by simp[h5,h7,h8]
 simp only[cS,gK,Option.bind_some,h1,Option.map_some,Option.getD_some,if_neg hc,h2,h3,h4,hnew,if_neg hd,if_neg hn,if_pos hb]
 rfl
theorem O3{P:Program}{t t' z by':Nat}(hT:T6 P t z by'=true)(hA:Dl P t'=true)(H:ab)(r q:Ref)(n:Nat){new es:List AV}{x:AV}(hx:Ro H.get z new x){fz:Bool}(hq:H.get q=some ⟨z,es,true,fz⟩)(hn:n=es.length)(hne:new≠[])(hb:(es.length+new.length) * by'≤cg) :
 cS P true H r (some t) (some t') (.cM q 0 n none) x=some (.cM ⟨q.d,q.t,H.gen q.d q.t,0⟩ 0 (es.length+new.length) none,(⟨q.d,q.t,H.gen q.d q.t,0⟩,some ⟨z,es++new,true,fz⟩) :: H.put q none):=by
 subst hn
 obtain⟨e,zz,h1,h2,h3,h4,h5,h6,h7,h8⟩:=jk hT
 have hnew:=hx.mq hT h1
 unfold Dl at hA
 simp only[Bool.and_eq_true,Bool.not_eq_true']at hA
 have hun:(P.underlying t').isNone=false:=by cases h:P.underlying t' with | none=>rw[h]at hA;simp at hA | some d=>rfl
 have hc : ¬((P.underlying t').isNone=true∨isInt P t'≠isNum x):=by
  rw[hun,hA.2,hx.num];simp
 have hd : ¬(z≠z∨z=0∨by'=0∨zz.cells.length≠z):=by simp[h5,h7,h8]
 have hd' : ¬(z≠z∨z=0∨by'=0∨new=[]∨zz.cells.length≠z):=by simp[h5,h7,h8,hne]
 have hqa:gK P H.get r (some t) (some t') (.cM q 0 es.length none) x=none:=by
  simp only[gK,Option.bind_some,h1,Option.map_some,Option.getD_some,if_neg hc,h2,h3,h4,hnew,if_neg hd,hq,if_neg hne]
  simp
 simp only[cS,hqa,EH,Ha]
 simp only[kn,Option.bind_some,h1,Option.map_some,Option.getD_some,if_neg hc,h2,h3,h4,hnew,if_neg hd',hq,hb,and_self,if_true,true_and]
def lK(P:Program)(t:TypeId):Nat:=((dY P t).bind (aU P)).getD 0
def qx(P:Program)(t:TypeId):Nat:=((dY P t).bind (lA P)).getD 0
def iG(P:Program)(t:TypeId):AV:=((dY P t).bind (eG P)).getD AV.undef
def nV(P:Program)(t:TypeId):Bool:=T6 P t (lK P t) (qx P t)
def Ra(z:Nat)(o:Option (Nat × List AV)):Option (List AV):=match o with
 | some (z',es)=>if z'=z then some es else none
 | none=>none
def ld(z:Nat)(g:dk)(x:AV):Option (List AV):=match x with
 | .v (.slice none 0 0)=>some []
 | .v (.int _ _)=>none
 | x=>Ra z (cT g x)
@[simp] theorem VD(z:Nat)(g:dk):ld z g cP=some []:=id rfl
@[simp] theorem VE(z:Nat)(g:dk)(z':Nat)(es:List AV)(c:Option Nat):ld z g (.cw z' es c)=if z'=z then some es else none:=id rfl
def TY(z o n:Nat)(b:Option bN):Option (List AV):=match b with
 | some b=>if (b.arr=true∧o+n≤b.es.length)∧b.esz=z then some ((b.es.drop o).take n) else none
 | none=>none
@[simp] theorem VF(z o n:Nat)(b:bN):TY z o n (some b)=if (b.arr=true∧o+n≤b.es.length)∧b.esz=z then some ((b.es.drop o).take n) else none:=id rfl
@[simp] theorem VC(z:Nat)(g:dk)(r:Ref)(o n:Nat)(c:Option Nat):ld z g (.cM r o n c)=TY z o n (g r):=by
 unfold ld TY
 simp only[cT]
 cases g r with
 | none=>rfl
 | some b =>
  dsimp only
  by_cases h:b.arr=true∧o+n≤b.es.length
  ·by_cases h2:b.esz=z
   ·rw[if_pos h,if_pos ⟨h,h2⟩];simp[Ra,h2]
   ·rw[if_pos h,if_neg (fun e=>h2 e.2)];simp[Ra,h2]
  ·rw[if_neg h,if_neg (fun e=>h e.1)];rfl
theorem Sl.ld{z:Nat}{es:List AV}{x:AV}(h:Sl z es x)(g:dk):Ab.ld z g x=some es:=by
 rcases h with ⟨rfl,rfl⟩ | ⟨c,rfl,_⟩<;>simp
theorem sS{z:Nat}{g:dk}{x:AV}{new:List AV}(h:ld z g x=some new):Ro g z new x:=by
 unfold ld at h
 split at h
 ·cases h;exact .inl ⟨rfl,rfl⟩
 ·cases h
 ·rename_i h1 h2
  unfold Ra at h
  split at h
  ·rename_i z' es he
   split at h
   ·rename_i hz
    cases h;subst hz
    refine .inr ⟨?_,fun e=>?_,he⟩
    ·cases x with
     | v u=>cases u with
      | int k n=>exact(h2 _ _ rfl).elim
      | _=>rfl
     | _=>rfl
    ·exact h1 e
   ·cases h
  ·cases h
def Yx(z by':Nat)(H:ab)(r:Ref)(new:Option (List AV)):dz:=match new with
 | some new=>if new=[] then some (cP,H) else if new.length * by'≤cg then some (.cM r 0 new.length none,({ r with k:=0},some ⟨z,new,true,false⟩) :: H) else none
 | none=>none
@[simp] theorem Mp(z by':Nat)(H:ab)(r:Ref)(new:List AV):Yx z by' H r (some new)=if new=[] then some (cP,H) else if new.length * by'≤cg then some (.cM r 0 new.length none,({ r with k:=0},some ⟨z,new,true,false⟩) :: H) else none:=id rfl
@[simp] theorem Uj{P:Program}{t t':TypeId}(hT:nV P t=true)(hA:Dl P t'=true)(wk:Bool)(H:ab)(r:Ref)(x:AV)(hx:(ld (lK P t) H.get x).isSome=true) :
 cS P wk H r (some t) (some t') cP x=Yx (lK P t) (qx P t) H r (ld (lK P t) H.get x):=by
 obtain⟨new,hn⟩:=Option.isSome_iff_exists.1 hx
 rw[hn,Mp]
 have hx:=sS hn
 unfold nV at hT
 by_cases hne:new=[]
 ·rw[if_pos hne]
  subst hne
  obtain⟨e,zz,h1,h2,h3,h4,h5,h6,h7,h8⟩:=jk hT
  have hnew:=hx.mq hT h1
  unfold Dl at hA
  simp only[Bool.and_eq_true,Bool.not_eq_true']at hA
  have hun:(P.underlying t').isNone=false:=by cases h:P.underlying t' with | none=>rw[h]at hA;simp at hA | some d=>rfl
  have hc : ¬((P.underlying t').isNone=true∨isInt P t'≠isNum x):=by rw[hun,hA.2,hx.num];simp
  have hd : ¬(lK P t≠lK P t∨lK P t=0∨qx P t=0∨zz.cells.length≠lK P t):=by simp[h5,h7,h8]
  simp only[cS,gK,Option.bind_some,h1,Option.map_some,Option.getD_some,if_neg hc,h2,h3,h4,hnew,if_neg hd,if_true]
  rfl
 ·rw[if_neg hne]
  split
  ·rename_i hb;exact O4 hT hA wk H r hx hne hb
  ·rename_i hb
   obtain⟨e,zz,h1,h2,h3,h4,h5,h6,h7,h8⟩:=jk hT
   have hnew:=hx.mq hT h1
   unfold Dl at hA
   simp only[Bool.and_eq_true,Bool.not_eq_true']at hA
   have hun:(P.underlying t').isNone=false:=by cases h:P.underlying t' with | none=>rw[h]at hA;simp at hA | some d=>rfl
   have hc : ¬((P.underlying t').isNone=true∨isInt P t'≠isNum x):=by rw[hun,hA.2,hx.num];simp
   have hd : ¬(lK P t≠lK P t∨lK P t=0∨qx P t=0∨zz.cells.length≠lK P t):=by simp[h5,h7,h8]
   have hd' : ¬(lK P t≠lK P t∨lK P t=0∨qx P t=0∨new=[]∨zz.cells.length≠lK P t):=by simp[h5,h7,h8,hne]
   have hqa:gK P H.get r (some t) (some t') cP x=none:=by
    simp only[gK,Option.bind_some,h1,Option.map_some,Option.getD_some,if_neg hc,h2,h3,h4,hnew,if_neg hd,if_neg hne,if_neg hb]
   simp only[cS,hqa,EH]
   cases wk
   ·rfl
   ·simp only[Ha,kn,Option.bind_some,h1,Option.map_some,Option.getD_some,if_neg hc,h2,h3,h4,hnew,if_neg hd']
def bsG(draw:Bool)(z:Nat)(zz:AV)(H:ab)(r:Ref)(n:Nat)(ps:List (Nat × AV)):dz:=match fZ (List.replicate n zz) ps with
 | some es=>if draw then some (.cw z es (some n),H) else some (.cM r 0 n (some n),({ r with k:=0},some ⟨z,es,true,false⟩) :: H)
 | none=>none
@[simp] theorem aaf{P:Program}{t:TypeId}(hT:nV P t=true)(draw wk:Bool)(H:ab)(r:Ref)(n:Nat)(ps:List (Nat × AV))(hsz:n * lK P t≤16777216)(hv:eT H.get ps=some ps)(hrf:ck H.get (ps.map (·.2))=[])
 (hc:ps.all (fun p=>p.2.cells.length == lK P t&&p.2.cells.all AV.one)=true) (hf:(fZ (List.replicate n (iG P t)) ps).isSome=true) :
 fa P draw wk H r t n (some ps)=bsG draw (lK P t) (iG P t) H r n ps:=by
 obtain⟨es,hf⟩:=Option.isSome_iff_exists.1 hf
 unfold nV at hT
 obtain⟨e,zz,h1,h2,h3,h4,h5,h6,h7,h8⟩:=jk hT
 have hz:(dY P t).bind (eG P)=some zz:=by rw[h1];exact h4
 have hz':iG P t=zz:=by unfold iG;rw[hz];rfl
 rw[hz']at hf ⊢
 rw[OW hT hsz hv hrf hc hz hf]
 unfold bsG
 rw[hf]
@[simp] theorem Pv(es:List AV):fZ es []=some es:=id rfl
@[simp] theorem OF(es:List AV)(i:Nat)(v:AV)(ps:List (Nat × AV)):fZ es ((i,v) :: ps)=if i<es.length then fZ (es.set i v) ps else none:=id rfl
@[simp] theorem Ys(draw:Bool)(z:Nat)(zz:AV)(H:ab)(r:Ref)(n:Nat)(ps:List (Nat × AV)):bsG draw z zz H r n ps=(fZ (List.replicate n zz) ps).bind fun es=>if draw then some (.cw z es (some n),H) else some (.cM r 0 n (some n),({ r with k:=0},some ⟨z,es,true,false⟩) :: H):=by
 unfold bsG;cases fZ (List.replicate n zz) ps<;>rfl
@[simp] theorem Pm(g:dk):eT g []=some []:=id rfl
@[simp] theorem MI(g:dk)(i:Nat)(x:AV)(ps:List (Nat × AV)):eT g ((i,x) :: ps)=(view g depth x).bind fun y=>(eT g ps).map ((i,y) :: ·):=by
 unfold eT
 rw[Hn]
 dsimp only
 cases view g depth x<;>rfl
def XV(z o n:Nat)(k:Int)(r:Ref)(b:Option bN):gz:=match b with
 | some b=>if 0≤k∧k<n∧z=b.esz then some (.ptr r (o+k.toNat) 0,[]) else none
 | none=>none
@[simp] theorem Vw(z o n:Nat)(k:Int)(r:Ref)(b:bN):XV z o n k r (some b)=if 0≤k∧k<n∧z=b.esz then some (.ptr r (o+k.toNat) 0,[]) else none:=id rfl
@[simp] theorem Mx{P:Program}{t:TypeId}(h:nV P t=true)(g:dk)(r:Ref)(o n:Nat)(c:Option Nat)(kd:IntKind)(k:Int) :
 aM P g t (some (.cM r o n c)) (some (.v (.int kd k)))=XV (lK P t) o n k r (g r):=by
 unfold nV at h
 obtain⟨e,zz,h1,h2,h3,h4,h5,h6,h7,h8⟩:=jk h
 simp only[aM,Option.bind_some,intOf,h1,h2]
 cases g r<;>rfl
def IU(H:ab)(r:Ref)(o:Option bN)(n i j:Nat)(x:AV):dz:=match o with
 | some ⟨z,es,true,false⟩=>if x.cells.length=n∧x.cells.all AV.one=true then (fb es i j x.cells).map fun es=>(AV.undef,H.put r (some ⟨z,es,true,false⟩)) else none
 | some ⟨z,es,false,false⟩=>if x.cells.length=n∧x.cells.all AV.one=true then (fb es i j x.cells).map fun es=>(AV.undef,H.put r (some ⟨z,es,false,false⟩)) else none
 | _=>none
@[simp] theorem BT(H:ab)(r:Ref)(z:Nat)(es:List AV)(n i j:Nat)(x:AV):IU H r (some ⟨z,es,true,false⟩) n i j x=if x.cells.length=n∧x.cells.all AV.one=true then (fb es i j x.cells).map fun es=>(AV.undef,H.put r (some ⟨z,es,true,false⟩)) else none:=id rfl
@[simp] theorem SH(H:ab)(r:Ref)(z:Nat)(es:List AV)(n i j:Nat)(x:AV):IU H r (some ⟨z,es,false,false⟩) n i j x=if x.cells.length=n∧x.cells.all AV.one=true then (fb es i j x.cells).map fun es=>(AV.undef,H.put r (some ⟨z,es,false,false⟩)) else none:=id rfl
def IX(H:ab)(o:Option bN)(x:AV):Prop:=match o with
 | some ⟨_,_,false,false⟩=>True
 | some ⟨_,_,true,false⟩=>view H.get depth x=some x∧aH H.get depth x=[]
 | _=>False
@[simp] theorem SJ(H:ab)(z:Nat)(es:List AV)(x:AV):IX H (some ⟨z,es,false,false⟩) x=True:=id rfl
@[simp] theorem SK(H:ab)(z:Nat)(es:List AV)(x:AV):IX H (some ⟨z,es,true,false⟩) x=(view H.get depth x=some x∧aH H.get depth x=[]):=id rfl
theorem MC{P:Program}{t:TypeId}(hn:(aU P t).isSome=true)(H:ab)(r:Ref)(i j:Nat)(x:AV)(hf:IX H (H.get r) x) :
 aT P H t (some (.ptr r i j)) (some x)=IU H r (H.get r) ((aU P t).getD 0) i j x:=by
 obtain⟨n,hn⟩:=Option.isSome_iff_exists.1 hn
 simp only[aT,hn,Option.getD_some]
 cases hr:H.get r with
 | none=>rw[hr]at hf;exact hf.elim
 | some b =>
  rw[hr]at hf
  obtain⟨z,es,arr,jb⟩:=b
  cases jb with
  | true=>cases arr<;>exact hf.elim
  | false =>
   cases arr with
   | false=>simp only[and_true,Bool.false_eq_true,if_false];rfl
   | true =>
    obtain⟨h1,h2⟩:=hf
    simp only[and_true,if_true,h1,h2,List.not_mem_nil,if_false,cq]
    by_cases hc:x.cells.length=n∧x.cells.all AV.one=true
    ·rw[if_pos hc,BT,if_pos hc,if_pos hc.2]
    ·rw[if_neg hc,BT,if_neg hc]
theorem Ge{α:Type}(f:α→AV)(l:List α)(i j:Nat)(new:List AV):fb (l.map f) i j new=(l[i]?).bind fun a=>(oE (f a) j new).map fun e'=>(l.map f).set i e':=by
 unfold fb
 rw[List.getElem?_map]
 cases l[i]?<;>rfl
@[simp] theorem Pj(cs:List AV)(j:Nat)(new:List AV):oE (.agg cs) j new=if j+new.length≤cs.length then some (.agg (patch cs j new)) else none:=id rfl
end Go.Ab
namespace Go.Ab
@[simp] theorem S1(f:Fn)(a b:List AV):sG f (some a) (some b)=some (.fn f a b,[]):=id rfl
attribute [simp] MC
@[simp] theorem TU(place:Nat→Option (Nat × Nat))(cells:List AV):kE place cells []=some cells:=id rfl
def So(place:Nat→Option (Nat × Nat))(cells:List AV)(v:AV)(rest:List (Nat × AV))(p:Option (Nat × Nat)):Option (List AV):=match p with
 | none=>none
 | some (off,size)=>if v.cells.length=size∧off+size≤cells.length then kE place (patch cells off v.cells) rest else none
@[simp] theorem Sp(place:Nat→Option (Nat × Nat))(cells:List AV)(i:Nat)(v:AV)(rest:List (Nat × AV)):kE place cells ((i,v) :: rest)=So place cells v rest (place i):=id rfl
@[simp] theorem TT(place:Nat→Option (Nat × Nat))(cells:List AV)(v:AV)(rest:List (Nat × AV))(off size:Nat):So place cells v rest (some (off,size))=if v.cells.length=size∧off+size≤cells.length then kE place (patch cells off v.cells) rest else none:=id rfl
@[simp] theorem Xf(r':Ref)(b':Option bN)(H:ab)(r:Ref)(b:Option bN):ab.put ((r',b') :: H) r b=if r'=r then (r,b) :: H else (r',b') :: ab.put H r b:=id rfl
@[simp] theorem PU{α β:Type}(f:α→β)(l:List α):List.take l.length (l.map f)=l.map f:=List.take_of_length_le (by simp)
def Pd(z:Nat)(es:List AV)(y:AV):Prop:=(y=cP∧es=[])∨y = .fsl z es none∨(y = .fsl z [] (some 0)∧es=[])
theorem QA(z:Nat):Pd z [] cP := .inl ⟨rfl,rfl⟩
@[simp] theorem YB(z:Nat)(es:List AV):Pd z es cP↔es=[]:=by
 constructor
 ·rintro(⟨_,e⟩ | e | ⟨e,_⟩)
  ·exact e
  ·cases e
  ·cases e
 ·rintro rfl;exact QA z
@[simp] theorem YC(z:Nat)(es es':List AV):Pd z es (.fsl z es' none)↔es=es':=by
 constructor
 ·rintro(⟨e,_⟩ | e | ⟨e,_⟩)
  ·cases e
  ·cases e;rfl
  ·cases e
 ·rintro rfl;exact .inr (.inl rfl)
@[simp] theorem VT(z:Nat)(es:List AV):Pd z es (.fsl z [] (some 0))↔es=[]:=by
 constructor
 ·rintro(⟨e,_⟩ | e | ⟨_,e⟩)
  ·cases e
  ·cases e
  ·exact e
 ·rintro rfl;exact .inr (.inr ⟨rfl,rfl⟩)
theorem It{P:Program}{t t':TypeId}(hT:nV P t=true)(hA:Dl P t'=true)(wk:Bool)(H:ab)(r q:Ref)(n k:Nat)(x:AV){es new:List AV}{fz:Bool}(hq:H.get q=some ⟨lK P t,es,true,fz⟩)(hx:ld (lK P t) H.get x=some new)(hn:n=es.length)(hk:new=[]∨((es.length+new.length) * qx P t≤cg∧k<es.length+new.length)) :
 cS P wk H r (some t) (some t') (.cM q 0 n (some k)) x=if new=[] then some (.cM q 0 n (some k),H) else some (.cM r 0 (es.length+new.length) none,({ r with k:=0},some ⟨lK P t,es++new,true,false⟩) :: H):=by
 subst hn
 have hx:=sS hx
 unfold nV at hT
 obtain⟨e,zz,h1,h2,h3,h4,h5,h6,h7,h8⟩:=jk hT
 have hnew:=hx.mq hT h1
 unfold Dl at hA
 simp only[Bool.and_eq_true,Bool.not_eq_true']at hA
 have hun:(P.underlying t').isNone=false:=by cases h:P.underlying t' with | none=>rw[h]at hA;simp at hA | some d=>rfl
 have hc : ¬((P.underlying t').isNone=true∨isInt P t'≠isNum x):=by rw[hun,hA.2,hx.num];simp
 have hd : ¬(lK P t≠lK P t∨lK P t=0∨qx P t=0∨zz.cells.length≠lK P t):=by simp[h5,h7,h8]
 by_cases hne:new=[]
 ·subst hne
  simp only[cS,gK,Option.bind_some,h1,Option.map_some,Option.getD_some,if_neg hc,h2,h3,h4,hnew,if_neg hd,hq,if_true]
  simp
 ·obtain⟨hb,hk⟩:=hk.resolve_left hne
  simp only[cS,gK,Option.bind_some,h1,Option.map_some,Option.getD_some,if_neg hc,h2,h3,h4,hnew,if_neg hd,hq,if_neg hne]
  simp only[ne_eq,not_true_eq_false,Bool.true_eq_false,or_self,if_false,Nat.zero_add,Nat.le_refl,hk,hb,and_self,if_true,List.drop_zero,List.take_length]
  rfl
def mN(z by' n:Nat)(wk:Bool)(c:Option Nat)(b:Option bN)(new:Option (List AV)):Prop:=match b,new with
 | some ⟨z',es,true,_⟩,some new=>z'=z∧n=es.length∧(new=[]∨((es.length+new.length) * by'≤cg∧match c with | none=>wk=true | some k=>k<es.length+new.length))
 | _,_=>False
theorem bt(z by' n:Nat)(wk:Bool)(z':Nat)(es new:List AV)(fz:Bool):mN z by' n wk none (some ⟨z',es,true,fz⟩) (some new)=(z'=z∧n=es.length∧(new=[]∨((es.length+new.length) * by'≤cg∧wk=true))):=id rfl
theorem bA(z by' n:Nat)(wk:Bool)(k z':Nat)(es new:List AV)(fz:Bool):mN z by' n wk (some k) (some ⟨z',es,true,fz⟩) (some new)=(z'=z∧n=es.length∧(new=[]∨((es.length+new.length) * by'≤cg∧k<es.length+new.length))):=id rfl
def Rj(z:Nat)(H:ab)(q r:Ref)(n:Nat)(c:Option Nat)(b:Option bN)(new:Option (List AV)):dz:=match b,new with
 | some b,some []=>some (.cM q 0 n c,H)
 | some b,some new=>match c with
  | none=>some (.cM ⟨q.d,q.t,H.gen q.d q.t,0⟩ 0 (b.es.length+new.length) none,(⟨q.d,q.t,H.gen q.d q.t,0⟩,some ⟨z,b.es++new,true,b.jb⟩) :: H.put q none)
  | some _=>some (.cM r 0 (b.es.length+new.length) none,({ r with k:=0},some ⟨z,b.es++new,true,false⟩) :: H)
 | _,_=>none
@[simp] theorem O5(z:Nat)(H:ab)(q r:Ref)(n:Nat)(c:Option Nat)(b:bN):Rj z H q r n c (some b) (some [])=some (.cM q 0 n c,H):=id rfl
theorem dc(z:Nat)(H:ab)(q r:Ref)(n:Nat)(b:bN)(new:List AV)(hn:new≠[]):Rj z H q r n none (some b) (some new)=some (.cM ⟨q.d,q.t,H.gen q.d q.t,0⟩ 0 (b.es.length+new.length) none,(⟨q.d,q.t,H.gen q.d q.t,0⟩,some ⟨z,b.es++new,true,b.jb⟩) :: H.put q none):=by
 cases new with
 | nil=>exact(hn rfl).elim
 | cons _ _=>rfl
theorem db(z:Nat)(H:ab)(q r:Ref)(n k:Nat)(b:bN)(new:List AV)(hn:new≠[]):Rj z H q r n (some k) (some b) (some new)=some (.cM r 0 (b.es.length+new.length) none,({ r with k:=0},some ⟨z,b.es++new,true,false⟩) :: H):=by
 cases new with
 | nil=>exact(hn rfl).elim
 | cons _ _=>rfl
theorem bP{P:Program}{t t':TypeId}(hT:nV P t=true)(hA:Dl P t'=true)(wk:Bool)(H:ab)(r q:Ref)(n:Nat)(c:Option Nat)(x:AV)(hf:mN (lK P t) (qx P t) n wk c (H.get q) (ld (lK P t) H.get x)) :
 cS P wk H r (some t) (some t') (.cM q 0 n c) x=Rj (lK P t) H q r n c (H.get q) (ld (lK P t) H.get x):=by
 cases hq:H.get q with
 | none=>rw[hq]at hf;exact hf.elim
 | some b =>
  obtain⟨z',es,arr,fz⟩:=b
  cases hx:ld (lK P t) H.get x with
  | none=>rw[hq,hx]at hf;cases arr<;>exact hf.elim
  | some new =>
   rw[hq,hx]at hf
   cases arr with
   | false=>exact hf.elim
   | true =>
    obtain⟨rfl,rfl,hf⟩:=hf
    cases c with
    | none =>
     by_cases hn:new=[]
     ·subst hn
      rw[O5]
      have hx':=sS hx
      unfold nV at hT
      obtain⟨e,zz,h1,h2,h3,h4,h5,h6,h7,h8⟩:=jk hT
      have hnew:=hx'.mq hT h1
      unfold Dl at hA
      simp only[Bool.and_eq_true,Bool.not_eq_true']at hA
      have hun:(P.underlying t').isNone=false:=by cases h:P.underlying t' with | none=>rw[h]at hA;simp at hA | some d=>rfl
      have hc : ¬((P.underlying t').isNone=true∨isInt P t'≠isNum x):=by rw[hun,hA.2,hx'.num];simp
      have hd : ¬(lK P t≠lK P t∨lK P t=0∨qx P t=0∨zz.cells.length≠lK P t):=by simp[h5,h7,h8]
      simp only[cS,gK,Option.bind_some,h1,Option.map_some,Option.getD_some,if_neg hc,h2,h3,h4,hnew,if_neg hd,hq,if_true]
      simp
     ·obtain⟨hb,rfl⟩:=hf.resolve_left hn
      rw[dc _ _ _ _ _ _ _ hn]
      exact O3 (by exact hT) hA H r q _ (sS hx) hq rfl hn hb
    | some k =>
     rw[It hT hA wk H r q _ k x hq hx rfl hf]
     split
     ·rename_i hn;subst hn;rfl
     ·rename_i hn;rw[db _ _ _ _ _ _ _ _ hn]
theorem Sl.N7{z:Nat}{es:List AV}{x:AV}(h:Sl z es x):x=cP∧es=[] ∨∃c,x = .cw z es c:=by
 rcases h with h | ⟨c,h,_⟩
 ·exact .inl h
 ·exact .inr ⟨c,h⟩
@[simp] theorem Qx(P:Program)(t:TypeId)(xo yo:Operand)(h:(dY P t).isSome=true)(z:Nat)(es:List AV)(c:Option Nat):aE P .eql t xo yo (some (.cw z es c)) (some cP)=some (aB false,[]):=by
 unfold dY at h
 split at h
 ·rename_i e he
  simp[aE,HA,mo,he]
 ·cases h
def X4(b:Option bN):Bool:=match b with | some b=>b.jb | none=>false
@[simp] theorem Vy(b:bN):X4 (some b)=b.jb:=id rfl
@[simp] theorem Um(g:dk):ic g []=true:=id rfl
@[simp] theorem Sw(g:dk)(r:Ref)(rs:List Ref):ic g (r :: rs)=(X4 (g r)&&ic g rs):=id rfl
theorem bB(H:ab)(r:Ref)(refs:List Ref)(y:AV)(h1:flat depth y=false)(h2:ic H.get refs=false):vB true H r refs (some y)=some ((aN r depth y []).1,keyed r 0 (aN r depth y []).2 (cq H refs)):=by
 simp only[vB,h1,h2,Bool.or_self,Bool.false_eq_true,if_false,if_true]
def nY:AV→AV
 | .cw z [] _ => .fsl z [] (some 0)
 | .cw z es _ => .fsl z es none
 | x=>x
@[simp] theorem OR(x:Value):nY (.v x) = .v x:=id rfl
@[simp] theorem JU(z:Nat)(c:Option Nat):nY (.cw z [] c) = .fsl z [] (some 0):=id rfl
theorem oR(z:Nat){es:List AV}(c:Option Nat)(h:es≠[]):nY (.cw z es c) = .fsl z es none:=by
 cases es with
 | nil=>exact(h rfl).elim
 | cons _ _=>rfl
theorem qz{z:Nat}{es:List AV}{x:AV}(h:Sl z es x):Pd z es (nY x):=by
 rcases h with ⟨rfl,rfl⟩ | ⟨c,rfl,_⟩
 ·simp
 ·by_cases he:es=[]
  ·subst he;simp
  ·rw[oR z c he];simp
def iw(z:Nat)(es:List AV)(H:ab)(x y:AV):Prop:=(x=y∧Sl z es y) ∨∃r c fz,x = .cM r 0 es.length c∧H.get r=some ⟨z,es,true,fz⟩∧y = .cw z es c∧es.length≤c.getD es.length
theorem iw.sl{z:Nat}{es:List AV}{H:ab}{x y:AV}(h:iw z es H x y):Sl z es y:=by
 rcases h with ⟨_,h⟩ | ⟨r,c,fz,_,_,rfl,h⟩
 ·exact h
 ·exact .inr ⟨c,rfl,h⟩
theorem iw.view{z:Nat}{es:List AV}{H:ab}{x y:AV}(h:iw z es H x y)(n:Nat):Ab.view H.get (n+1) x=some y:=by
 rcases h with ⟨rfl,h⟩ | ⟨r,c,fz,rfl,hr,rfl,_⟩
 ·exact h.view _ _
 ·rw[Ef hr rfl]
theorem iw.len{z:Nat}{es:List AV}{H:ab}{x y:AV}(h:iw z es H x y):rq x=some es.length:=by
 rcases h with ⟨rfl,h⟩ | ⟨r,c,fz,rfl,hr,rfl,_⟩
 ·exact h.len
 ·rfl
theorem iw.cells{z:Nat}{es:List AV}{H:ab}{x y:AV}(h:iw z es H x y):x.cells=[x]∧x.one=true:=by
 rcases h with ⟨rfl,h⟩ | ⟨r,c,fz,rfl,hr,rfl,_⟩
 ·exact h.cells
 ·exact⟨rfl,rfl⟩
theorem iw.put{z:Nat}{es:List AV}{H:ab}{x y:AV}(h:iw z es H x y){q:Ref}(hq:x.at?≠some q)(b:Option bN):iw z es (H.put q b) x y:=by
 rcases h with h | ⟨r,c,fz,rfl,hr,rfl,hc⟩
 ·exact .inl h
 ·refine .inr ⟨r,c,fz,rfl,?_,rfl,hc⟩
  rw[ab.get_put,if_neg (by rintro rfl;exact hq rfl),hr]
theorem iw.cons{z:Nat}{es:List AV}{H:ab}{x y:AV}(h:iw z es H x y)(hF:Fr H)(d t:Nat)(b:Option bN):iw z es ((⟨d,t,H.gen d t,0⟩,b) :: H) x y:=by
 rcases h with h | ⟨r,c,fz,rfl,hr,rfl,hc⟩
 ·exact .inl h
 ·refine .inr ⟨r,c,fz,rfl,?_,rfl,hc⟩
  rw[ab.po,if_neg (pS hF (by rw[hr];rfl) d t 0),hr]
theorem iw.r{z:Nat}{es:List AV}{H:ab}{x y:AV}(h:iw z es H x y):rq x=some es.length∧(∀n,Ab.view H.get (n+1) x=some y)∧x.cells=[x]∧x.one=true:=⟨h.len,h.view,h.cells⟩
theorem iw.of{z:Nat}{es:List AV}{x:AV}(h:Sl z es x)(H:ab):iw z es H x x := .inl ⟨rfl,h⟩
def Mu(z:Nat)(es:List AV)(H:ab)(x:AV)(r:Ref):Prop:=(x=cP∧es=[]) ∨∃c,x = .cM r 0 es.length c∧H.get r=some ⟨z,es,true,false⟩
theorem Mu.len{z:Nat}{es:List AV}{H:ab}{x:AV}{r:Ref}(h:Mu z es H x r):rq x=some es.length:=by
 rcases h with ⟨rfl,rfl⟩ | ⟨c,rfl,_⟩<;>rfl
theorem Mu.cells{z:Nat}{es:List AV}{H:ab}{x:AV}{r:Ref}(h:Mu z es H x r):x.cells=[x]∧x.one=true:=by
 rcases h with ⟨rfl,rfl⟩ | ⟨c,rfl,_⟩<;>exact⟨rfl,rfl⟩
theorem Mu.cM{z:Nat}{es:List AV}{H:ab}{x:AV}{r:Ref}(h:Mu z es H x r){k:Nat}(hk:k<es.length) : ∃c,x = .cM r 0 es.length c∧H.get r=some ⟨z,es,true,false⟩:=by
 rcases h with ⟨rfl,rfl⟩ | h
 ·simp at hk
 ·exact h
def Dg(ts:List Nat)(z:Nat)(es:List AV)(H:ab)(x:AV):Prop:=(x=cP∧es=[]) ∨∃t g,t∈ts∧x = .cM ⟨0,t,g,0⟩ 0 es.length none∧H.get ⟨0,t,g,0⟩=some ⟨z,es,true,false⟩
theorem iw.live{z:Nat}{es:List AV}{H:ab}{x y:AV}(h:iw z es H x y){r:Ref}(hr:x.at?=some r):(H.get r).isSome=true:=by
 rcases h with ⟨rfl,h⟩ | ⟨r',c,fz,rfl,hr',rfl,_⟩
 ·rcases h with ⟨rfl,_⟩ | ⟨c,rfl,_⟩<;>cases hr
 ·cases hr;rw[hr'];rfl
theorem iw.mono{z:Nat}{es:List AV}{H H':ab}{x y:AV}(h:iw z es H x y)(hk : ∀r,x.at?=some r→H'.get r=H.get r):iw z es H' x y:=by
 rcases h with h | ⟨r',c,fz,rfl,hr',rfl,hc⟩
 ·exact .inl h
 ·exact .inr ⟨r',c,fz,rfl,by rw[hk r' rfl,hr'],rfl,hc⟩
theorem ae{H:ab}(hF:Fr H){q:Ref}(h:(H.get q).isSome=true)(d t k:Nat):((⟨d,t,H.gen d t+1,k⟩:Ref)=q)=False :=
 eq_false fun e=>by subst e;rw[hF _ _ _ _ (Nat.le_succ _)]at h;cases h
theorem af{H:ab}(hF:Fr H){q:Ref}(h:(H.get q).isSome=true)(d t k:Nat):(q=(⟨d,t,H.gen d t+1,k⟩:Ref))=False :=
 eq_false fun e=>by subst e;rw[hF _ _ _ _ (Nat.le_succ _)]at h;cases h
theorem ao{H:ab}(hF:Fr H)(d t k:Nat):H.get ⟨d,t,H.gen d t+1,k⟩=none:=hF _ _ _ _ (Nat.le_succ _)
theorem an{H:ab}(hF:Fr H){d t g:Nat}(k:Nat)(hg:g=H.gen d t∨g+1=H.gen d t)(b:Option bN):Fr ((⟨d,t,g,k⟩,b) :: H):=by
 intro d' t' g' k' h
 rw[ab.HM]at h
 rw[ab.po]
 by_cases he:d=d'∧t=t'
 ·obtain⟨rfl,rfl⟩:=he
  rw[if_pos ⟨rfl,rfl⟩]at h
  rw[if_neg (by intro e;injection e;omega)]
  exact hF _ _ _ _ (by omega)
 ·rw[if_neg he]at h
  rw[if_neg (by intro e;injection e with e1 e2;exact he ⟨e1,e2⟩)]
  exact hF _ _ _ _ h
end Go.Ab
namespace Go.Ab
def KG(by':Nat)(es:List AV)(k:Nat)(new:Option (List AV)):Prop:=match new with
 | some new=>new=[]∨(k<es.length+new.length∧(es.length+new.length) * by'≤cg)
 | none=>False
theorem aV(by':Nat)(es:List AV)(k:Nat)(new:List AV):KG by' es k (some new)=(new=[]∨(k<es.length+new.length∧(es.length+new.length) * by'≤cg)):=id rfl
def TC(z:Nat)(H:ab)(r:Ref)(es:List AV)(k:Nat)(new:Option (List AV)):dz:=match new with
 | some []=>some (.cw z es (some k),H)
 | some new=>some (.cM r 0 (es.length+new.length) none,({ r with k:=0},some ⟨z,es++new,true,false⟩) :: H)
 | none=>none
@[simp] theorem Oq(z:Nat)(H:ab)(r:Ref)(es:List AV)(k:Nat):TC z H r es k (some [])=some (.cw z es (some k),H):=id rfl
theorem cm(z:Nat)(H:ab)(r:Ref)(es:List AV)(k:Nat)(new:List AV)(hn:new≠[]):TC z H r es k (some new)=some (.cM r 0 (es.length+new.length) none,({ r with k:=0},some ⟨z,es++new,true,false⟩) :: H):=by
 cases new with
 | nil=>exact(hn rfl).elim
 | cons _ _=>rfl
theorem bR{P:Program}{t t':TypeId}(hT:nV P t=true)(hA:Dl P t'=true)(wk:Bool)(H:ab)(r:Ref)(z k:Nat)(es:List AV)(x:AV)(hz:z=lK P t)(hf:KG (qx P t) es k (ld (lK P t) H.get x)) :
 cS P wk H r (some t) (some t') (.cw z es (some k)) x=TC z H r es k (ld (lK P t) H.get x):=by
 subst hz
 cases hx:ld (lK P t) H.get x with
 | none=>rw[hx]at hf;exact hf.elim
 | some new =>
  rw[hx]at hf
  have hx':=sS hx
  unfold nV at hT
  obtain⟨e,zz,h1,h2,h3,h4,h5,h6,h7,h8⟩:=jk hT
  have hnew:=hx'.mq hT h1
  unfold Dl at hA
  simp only[Bool.and_eq_true,Bool.not_eq_true']at hA
  have hun:(P.underlying t').isNone=false:=by cases h:P.underlying t' with | none=>rw[h]at hA;simp at hA | some d=>rfl
  have hc : ¬((P.underlying t').isNone=true∨isInt P t'≠isNum x):=by rw[hun,hA.2,hx'.num];simp
  have hd : ¬(lK P t≠lK P t∨lK P t=0∨qx P t=0∨zz.cells.length≠lK P t):=by simp[h5,h7,h8]
  by_cases hn:new=[]
  ·subst hn
   rw[Oq]
   simp only[cS,gK,Option.bind_some,h1,Option.map_some,Option.getD_some,if_neg hc,h2,h3,h4,hnew,if_neg hd,if_neg (show ¬(lK P t≠lK P t) by simp),if_true]
   rfl
  ·obtain⟨hk,hb⟩:=hf.resolve_left hn
   rw[cm _ _ _ _ _ _ hn]
   simp only[cS,gK,Option.bind_some,h1,Option.map_some,Option.getD_some,if_neg hc,h2,h3,h4,hnew,if_neg hd,if_neg (show ¬(lK P t≠lK P t) by simp),if_neg hn,if_pos (show k<es.length+new.length∧(es.length+new.length) * qx P t≤cg from⟨hk,hb⟩)]
   rfl
end Go.Ab
namespace Go.Ab
@[simp] theorem Vx(n:Nat)(h:n<9223372036854775808):IntKind.i64.wrap (no_index (OfNat.ofNat n):Int)=OfNat.ofNat n:=by
 show IntKind.i64.wrap (n:Int)=n
 exact IntWalk.i64_in _ (by omega)
@[simp] theorem Yu(len:Nat)(cap:Option Nat)(lo hi:Option Int):bounds len cap lo hi none=if 0≤lo.getD 0∧lo.getD 0≤hi.getD len∧hi.getD len≤len then some ((lo.getD 0).toNat,(hi.getD len).toNat,cap.map (· - (lo.getD 0).toNat)) else none:=id rfl
@[simp] theorem WZ(k:Nat):min k IntKind.i64.bits=min k 64:=id rfl
@[simp] theorem Yy(l:List (AV × AV))(st bs:List AV)(H:ab):kH l st bs H↔(l.all fun p=>nJ p.1 p.2)=true∧st.all (rV H)=true∧bs.all bsV=true:=Iff.rfl
@[simp] theorem UT(r:Ref)(i j:Nat)(r':Ref)(i' j':Nat):nJ (.ptr r i j) (.ptr r' i' j') = !decide (r=r'):=by
 unfold nJ;simp[gJ]
@[simp] theorem US(v:Value)(x:AV):nJ x (.v v)=true:=by
 unfold nJ;cases gJ x<;>rfl
def IT(o:Option bN):Bool:=match o with
 | some b => !b.arr
 | none=>false
@[simp] theorem Ry(b:bN):IT (some b) = !b.arr:=id rfl
@[simp] theorem WY(H:ab)(r:Ref)(i j:Nat):rV H (.ptr r i j)=IT (H.get r):=by
 cases h:H.get r<;>simp[rV,IT,h]
end Go.Ab
namespace Go.Ab
def be:Nat→Int→List UInt8
 | 0,_=>[]
 | k+1,n=>be k (n / 256)++[u8 n]
def aan(a:Int)(l:List UInt8):Int:=l.foldl (fun a b=>256 * a+(b.toNat:Int)) a
def val(l:List UInt8):Int:=aan 0 l
@[simp] theorem O0(k:Nat) : ∀n,(be k n).length=k:=by
 induction k with
 | zero=>intro n;rfl
 | succ k ih=>intro n;simp[be,ih]
@[simp] theorem aai(n:Int):be 0 n=[]:=id rfl
theorem F9(k:Nat) : ∀n:Int,be (k+1) n=u8 (n / 256 ^ k) :: be k n:=by
 induction k with
 | zero=>intro n;simp[be]
 | succ k ih =>
  intro n
  rw[be,ih,be]
  rw[Int.ediv_ediv_of_nonneg (by omega),Int.pow_succ,Int.mul_comm (256 ^ k)]
  simp
@[simp] theorem Uh(k:Nat)(n:Int):be k n=[]↔k=0:=by
 rw[←List.length_eq_zero_iff,O0]
theorem J3(n:Int):be 4 n=[u8 (n / 16777216),u8 (n / 65536),u8 (n / 256),u8 n]:=by
 simp[F9]
theorem aa2(n:Int):be 7 n=[u8 (n / 281474976710656),u8 (n / 1099511627776),u8 (n / 4294967296),u8 (n / 16777216),u8 (n / 65536),u8 (n / 256),u8 n]:=by
 simp[F9]
theorem eO(n:Int)(k:Nat):n.fdiv (no_index (OfNat.ofNat k))=n / OfNat.ofNat k:=Int.fdiv_eq_ediv_of_nonneg _ (Int.natCast_nonneg k)
def LK(z:Nat):List AV→AV
 | []=>cP
 | es => .cw z es none
theorem Kt(z:Nat){es:List AV}(h:es≠[]):LK z es = .cw z es none:=by
 cases es with
 | nil=>exact(h rfl).elim
 | cons _ _=>rfl
theorem Sl.TB{z:Nat}{es:List AV}{x:AV}(h:Sl z es x)(he:es≠[]) : ∃c,x = .cw z es c∧es.length≤c.getD es.length:=by
 rcases h with ⟨_,rfl⟩ | ⟨c,h,hc⟩
 ·exact(he rfl).elim
 ·exact⟨c,h,hc⟩
def Td(z:Nat)(b:Option bN)(q:gz):gz:=match b with
 | some b=>if z=b.esz then q else none
 | none=>none
@[simp] theorem Vg(z:Nat)(b:bN)(q:gz):Td z (some b) q=if z=b.esz then q else none:=id rfl
@[simp] theorem SY{P:Program}{t:TypeId}(h:nV P t=true)(g:dk)(r:Ref)(o n:Nat)(c:Option Nat)(lo hi mx:Option Int) :
 eQ P g t (some (.cM r o n c)) (some lo) (some hi) (some mx)=Td (lK P t) (g r) ((bounds n c lo hi mx).map fun p=>(.cM r (o+p.1) (p.2.1 - p.1) p.2.2,[])):=by
 unfold nV at h
 obtain⟨e,zz,h1,h2,h3,h4,h5,h6,h7,h8⟩:=jk h
 have hz:(dY P t).bind (aU P)=some (lK P t):=by rw[h1];exact h2
 unfold eQ
 dsimp only
 rw[hz]
 cases g r with
 | none=>rfl
 | some b=>simp[Td]
@[simp] theorem Ue(l:List UInt8):ia l=[]↔l=[]:=by simp[ia]
end Go.Ab
