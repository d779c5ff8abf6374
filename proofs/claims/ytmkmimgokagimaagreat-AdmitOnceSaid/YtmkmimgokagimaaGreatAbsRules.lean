/-
  The arguments of a law: from what is read before the call to data. No statement of a seat is proved here.
  The shapes of the arguments' data, type by type. No statement of a seat is proved here.
  '==' of structs and arrays of bools, numbers and strings: cell by cell. No statement of a seat is proved here.
  More rules for the conditions: slices, strings, calls that answer slices, small slices. No statement of a seat is proved here.
  Boxes, fields, structs in the conditions; branches as ifs; calls as rules. No statement of a seat is proved here.
  Rules that let a simplifier go through calls, boxes and own slices by itself. No statement of a seat is proved here.
  Rules for a simplifier, on: what a call hands out as the caller's own, and what is behind a call. No statement of a seat is proved here.
  Rules for a simplifier, on: appends to data, bytes. No statement of a seat is proved here.
  More rules for the simplifier. No statement of a seat is proved here.
  Numbers as bytes, the highest first. No statement of a seat is proved here.
-/
import Derived.Test.YtmkmimgokagimaaGreatAbsCond
import Derived.ChangeKeysEq
import Derived.Laws.Strings
set_option linter.unusedVariables false
set_option linter.unusedSimpArgs false
namespace Go.Ab
open Go.ChangeShapes Go.WideShapes Go.RowKit
def mkEl(ag:Bool)(xs:List AV):AV:=match ag,xs with
 | false,[x]=>x
 | _,xs => .agg xs
def Kz(S:List AV→Prop):Nat→List AV→Prop
 | 0,xs=>xs=[]
 | k+1,xs =>∃a b,xs=a++b∧S a∧Kz S k b
def ShFs(S:TypeId→List AV→Prop):List Field→List AV→Prop
 | [],xs=>xs=[]
 | f :: fs,xs =>∃a b,xs=a++b∧S f.type a∧ShFs S fs b
def ShC(P:Program):Nat→TypeId→List AV→Prop
 | 0,_,_=>False
 | n+1,t,xs=>match P.underlying t with
  | some .bool =>∃b,xs=[aB b]
  | some (.int k) =>∃i,(k.min≤i∧i≤k.max)∧xs=[.v (.int k i)]
  | some .string =>∃s:ByteArray,xs=[aS s]
  | some (.slice e)=>xs=[aNil] ∨∃es:List (List AV),xs=[.isl (P.cellsOf e) (es.map (mkEl ((tagg P e).getD false))) none] ∧∀x∈es,ShC P n e x
  | some (.struct fs)=>ShFs (ShC P n) fs.toList xs
  | some (.array k e)=>Kz (ShC P n e) k xs
  | _=>False
def layout(P:Program):List Field→Nat→Option Nat
 | [],o=>some o
 | f :: fs,o=>if f.offset=o then layout P fs (o+P.cellsOf f.type) else none
def plain(P:Program):Nat→TypeId→Bool
 | 0,_=>false
 | n+1,t=>match P.underlying t with
  | some .bool | some (.int _) | some .string=>P.cellsOf t == 1
  | some (.slice e)=>P.cellsOf t == 1&&plain P n e&&decide (0<P.cellsOf e)
  | some (.struct fs)=>fs.toList.all (fun f=>plain P n f.type)&&layout P fs.toList 0 == some (P.cellsOf t)
  | some (.array k e)=>plain P n e&&P.cellsOf t == k * P.cellsOf e
  | _=>false
theorem ShC.facts{P:Program} : ∀(n:Nat)(t:TypeId)(xs:List AV),plain P n t=true→ShC P n t xs→xs.length=P.cellsOf t ∧∀x∈xs,x.one=true:=by
 intro n
 induction n with
 | zero=>intro t xs h;simp[plain]at h
 | succ n ih =>
  intro t xs hp hs
  unfold plain at hp
  unfold ShC at hs
  cases hu:P.underlying t with
  | none=>rw[hu]at hs;exact hs.elim
  | some d =>
   rw[hu]at hp hs
   cases d<;>dsimp only at hp hs<;>try (exact hs.elim)
   ·obtain⟨b,rfl⟩:=hs
    simp at hp;exact⟨by simp[hp],by simp[AV.one]⟩
   ·obtain⟨i,_,rfl⟩:=hs
    simp at hp;exact⟨by simp[hp],by simp[AV.one]⟩
   ·obtain⟨s,rfl⟩:=hs
    simp at hp;exact⟨by simp[hp],by simp[AV.one]⟩
   ·rename_i e
    simp only[Bool.and_eq_true,beq_iff_eq]at hp
    rw[hp.1.1]
    rcases hs with rfl | ⟨es,rfl,_⟩
    ·simp[AV.one]
    ·simp[AV.one]
   ·rename_i k e
    simp only[Bool.and_eq_true,beq_iff_eq]at hp
    rw[hp.2]
    have : ∀(k:Nat)(xs:List AV),Kz (ShC P n e) k xs→xs.length=k * P.cellsOf e ∧∀x∈xs,x.one=true:=by
     intro k
     induction k with
     | zero=>intro xs h;simp only[Kz]at h;subst h;simp
     | succ k ihk =>
      intro xs h
      obtain⟨a,b,rfl,ha,hb⟩:=h
      obtain⟨h1,h2⟩:=ih e a hp.1 ha
      obtain⟨h3,h4⟩:=ihk b hb
      refine⟨by rw[List.length_append,h1,h3,Nat.succ_mul];omega,fun x hx=>?_⟩
      rcases List.mem_append.1 hx with h | h
      ·exact h2 x h
      ·exact h4 x h
    exact this k xs hs
   ·rename_i fs
    simp only[Bool.and_eq_true,beq_iff_eq,List.all_eq_true]at hp
    have : ∀(l:List Field)(o:Nat)(xs:List AV),(∀f∈l,plain P n f.type=true)→ShFs (ShC P n) l xs→(∀m,layout P l o=some m→o+xs.length=m) ∧∀x∈xs,x.one=true:=by
     intro l
     induction l with
     | nil=>intro o xs _ h;simp only[ShFs]at h;subst h;exact⟨fun m hm=>by simp[layout]at hm;simp[hm],by simp⟩
     | cons f l ihl =>
      intro o xs hl h
      obtain⟨a,b,rfl,ha,hb⟩:=h
      obtain⟨h1,h2⟩:=ih f.type a (hl f (List.mem_cons_self ..)) ha
      obtain⟨h3,h4⟩:=ihl (o+P.cellsOf f.type) b (fun f hf=>hl f (List.mem_cons_of_mem _ hf)) hb
      refine⟨fun m hm=>?_,fun x hx=>?_⟩
      ·unfold layout at hm
       split at hm
       ·have:=h3 m hm;rw[List.length_append,h1];omega
       ·cases hm
      ·rcases List.mem_append.1 hx with h | h
       ·exact h2 x h
       ·exact h4 x h
    obtain⟨h1,h2⟩:=this fs.toList 0 xs hp.1 hs
    exact⟨by have:=h1 _ hp.2;omega,h2⟩
theorem Hh{ag:Bool}{xs:List AV}(h1 : ∀x∈xs,x.one=true):(mkEl ag xs).cells=xs:=by
 unfold mkEl
 split
 ·rename_i x
  have:=h1 x (by simp)
  cases x<;>first | rfl | (simp[AV.one]at this)
 ·rfl
section
variable{H:Type}{enc:TypeId × Value→H}{P:Program}{w:World}{base:Nat}{spare:Nat→Bool}{held:Bool}
abbrev uh(w:World):Mem:=fun b o=>w.cell? ⟨b,o,none⟩
theorem Hf : ∀(n m:Nat)(t:TypeId)(cs:List Value)(d:DataW H)(ps:List MemPlace),plain P m t=true→DataW.trod enc P w base spare held n t cs=some (d,ps) →
 ∃xs:List AV,ShC P m t xs∧VRs (uh w) eF xs cs:=by
 intro n
 induction n with
 | zero=>intro m t cs d ps _ h;simp[DataW.trod]at h
 | succ n ih =>
  intro m t cs d ps hp h
  cases m with
  | zero=>simp[plain]at hp
  | succ m =>
  have hp0:=hp
  unfold plain at hp
  unfold ShC
  cases hu:P.underlying t with
  | none=>rw[hu]at hp;simp at hp
  | some dd =>
   rw[hu]at hp
   unfold DataW.trod at h
   rw[hu]at h
   have single : ∀ {x:AV} {c:Value},VR (uh w) eF x c→VRs (uh w) eF [x] [c]:=fun h=>VRs.cons h VRs.nil
   cases dd<;>dsimp only at hp ⊢ <;> try (simp at hp;done)
   ·
    rcases cs with _ | ⟨c,_ | ⟨c',cs⟩⟩
    ·simp at h
    ·cases c<;>first | (simp at h;done) | skip
     rename_i b
     exact⟨[aB b],⟨b,rfl⟩,single (.v rfl)⟩
    ·simp at h
   ·
    rename_i k
    rcases cs with _ | ⟨c,_ | ⟨c',cs⟩⟩
    ·simp at h
    ·cases c<;>first | (simp at h;done) | skip
     rename_i k' i
     dsimp only at h
     split at h
     ·rename_i hk
      obtain⟨rfl,hw⟩:=hk
      exact⟨[.v (.int k' i)],⟨i,by simpa [Lit.wf] using hw,rfl⟩,single (.v rfl)⟩
     ·cases h
    ·simp at h
   ·
    rcases cs with _ | ⟨c,_ | ⟨c',cs⟩⟩
    ·simp at h
    ·cases c<;>first | (simp at h;done) | skip
     rename_i s
     exact⟨[aS s],⟨s,rfl⟩,single (.v rfl)⟩
    ·simp at h
   ·
    rename_i e
    simp only[Bool.and_eq_true,beq_iff_eq,decide_eq_true_eq]at hp
    rcases cs with _ | ⟨c,_ | ⟨c',cs⟩⟩
    ·simp at h
    ·cases c<;>first | (simp at h;done) | skip
     rename_i a len cap
     cases a with
     | none =>
      have hlc:len=0∧cap=0:=by
       cases len<;>cases cap<;>simp at h ⊢
      obtain⟨rfl,rfl⟩:=hlc
      exact⟨[aNil],.inl rfl,single (.v rfl)⟩
     | some a =>
      dsimp only at h
      split at h
      ·rename_i hb
       simp only[Option.bind_eq_some_iff,Option.map_eq_some_iff]at h
       obtain⟨elems,hel,_⟩:=h
       have hlen:elems.length=len:=by simpa using gp hel
       have each : ∀i,i<len →∃(xs:List AV) (vs:List Value),ShC P m e xs∧VRs (uh w) eF xs vs∧w.cells? base (a.add (i * P.cellsOf e)) (P.cellsOf e)=some vs:=by
        intro i hi
        obtain⟨y,hy,hf⟩:=iu hel i i (by simp[hi])
        simp only[Option.bind_eq_some_iff]at hf
        obtain⟨vs,hvs,hf⟩:=hf
        obtain⟨xs,h1,h2⟩:=ih m e vs y.1 y.2 hp.1.2 hf
        exact⟨xs,vs,h1,h2,hvs⟩
       have : ∀k,k≤len →∃es:List (List AV),es.length=k ∧∀i xs,es[i]?=some xs →∃vs:List Value,ShC P m e xs∧VRs (uh w) eF xs vs∧w.cells? base (a.add (i * P.cellsOf e)) (P.cellsOf e)=some vs:=by
        intro k
        induction k with
        | zero=>intro _;exact⟨[],rfl,fun i xs h=>by simp at h⟩
        | succ k ihk =>
         intro hk
         obtain⟨es,h1,h2⟩:=ihk (by omega)
         obtain⟨xs,vs,h3⟩:=each k (by omega)
         refine⟨es++[xs],by simp[h1],fun i ys hy=>?_⟩
         rcases Nat.lt_or_ge i k with hi | hi
         ·rw[List.getElem?_append_left (by omega)]at hy
          exact h2 i ys hy
         ·have:i=k:=by
           have:=(List.getElem?_eq_some_iff.1 hy).1
           simp[h1]at this
           omega
          subst this
          rw[List.getElem?_append_right (by omega)]at hy
          simp[h1]at hy
          subst hy
          exact⟨vs,h3⟩
       obtain⟨es,hes,heach⟩:=this len (Nat.le_refl _)
       have hx1 : ∀xs∈es,(mkEl ((tagg P e).getD false) xs).cells=xs∧xs.length=P.cellsOf e:=by
        intro xs hxs
        obtain⟨i,hi,rfl⟩:=List.getElem_of_mem hxs
        obtain⟨vs,h1,h2,h3⟩:=heach i es[i] (List.getElem?_eq_getElem hi)
        obtain⟨h4,h5⟩:=h1.facts m e _ hp.1.2
        exact⟨Hh h5,h4⟩
       refine⟨[.isl (P.cellsOf e) (es.map (mkEl ((tagg P e).getD false))) none],.inr ⟨es,rfl,fun xs hxs=>?_⟩,single ?_⟩
       ·obtain⟨i,hi,rfl⟩:=List.getElem_of_mem hxs
        obtain⟨vs,h1,_⟩:=heach i es[i] (List.getElem?_eq_getElem hi)
        exact h1
       ·have hlm:(es.map (mkEl ((tagg P e).getD false))).length=len:=by simp[hes]
        have hcell : ∀i j,i<len→j<P.cellsOf e →∃xs vs,es[i]?=some xs∧VRs (uh w) eF xs vs∧(∀x∈xs,x.one=true)∧xs.length=P.cellsOf e∧uh w a.block (a.off+(i * P.cellsOf e+j))=vs[j]?∧(a.spot=none):=by
         intro i j hi hj
         have hi':i<es.length:=by omega
         obtain⟨vs,h1,h2,h3⟩:=heach i es[i] (List.getElem?_eq_getElem hi')
         obtain⟨h4,h5⟩:=h1.facts m e _ hp.1.2
         obtain⟨hb',hvl,hc⟩:=World.cells?_some h3
         have hj':=hc j hj
         have hsp:a.spot=none:=by
          obtain⟨vs0,g1,g2,g3⟩:=heach 0 es[0] (List.getElem?_eq_getElem (by omega))
          obtain⟨_,hvl0,hc0⟩:=World.cells?_some g3
          have:=hc0 0 hp.2
          rw[Nat.zero_mul]at this
          have ha0:(a.add 0).add 0=a:=by simp[Addr.add]
          rw[ha0]at this
          unfold World.cell? at this
          cases hs:a.spot with
          | none=>rfl
          | some z =>
           exfalso
           have hl0:0<vs0.length:=by omega
           rw[List.getElem?_eq_getElem hl0]at this
           split at this
           ·rw[hs]at this;simp at this
           ·simp at this
         refine⟨es[i],vs,List.getElem?_eq_getElem hi',h2,h5,h4,?_,hsp⟩
         rw[←hj']
         unfold uh
         congr 1
         rw[iF hsp,fB,fB,Nat.add_assoc]
        have:=VR.isl (M:=uh w) (ι:=eF) (esz:=P.cellsOf e) (es:=es.map (mkEl ((tagg P e).getD false))) (cap:=none) (a:=a) (c:=cap)
         (fun i j=>(uh w a.block (a.off+(i * P.cellsOf e+j))).getD Go.undef) ?_ (by rw[hlm];exact hb.2.1) (fun k hk=>by cases hk) ?_ ?_ ?_
        ·rw[hlm]at this;exact this
        ·rcases Nat.eq_zero_or_pos len with h0 | h0
         ·right
          have:es=[]:=by apply List.eq_nil_of_length_eq_zero;omega
          simp[this]
         ·left
          obtain⟨_,_,_,_,_,_,_,hs⟩:=hcell 0 0 h0 hp.2
          exact hs
        ·intro i j hi hj
         rw[hlm]at hi
         obtain⟨xs,vs,h1,h2,h3,h4,h5,_⟩:=hcell i j hi hj
         have hjv:j<vs.length:=by rw[←h2.1,h4];exact hj
         have hjx:j<xs.length:=by rw[h4];exact hj
         rw[h5,List.getElem?_eq_getElem hjv]
         refine⟨rfl,?_⟩
         have:=h2.2 j xs[j] vs[j] (List.getElem?_eq_getElem hjx) (List.getElem?_eq_getElem hjv)
         exact this.one (h3 _ (List.getElem_mem ..))
        ·intro x hx
         obtain⟨xs,hxs,rfl⟩:=List.mem_map.1 hx
         rw[(hx1 xs hxs).1]
         exact(hx1 xs hxs).2
        ·intro i j x c hx hc
         rw[List.getElem?_map,Option.map_eq_some_iff]at hx
         obtain⟨xs,hxs,rfl⟩:=hx
         have hmem:xs∈es:=List.mem_of_getElem? hxs
         rw[(hx1 xs hmem).1]at hc
         have hi:i<len:=by have:=(List.getElem?_eq_some_iff.1 hxs).1;omega
         have hj:j<P.cellsOf e:=by have:=(List.getElem?_eq_some_iff.1 hc).1;rw[(hx1 xs hmem).2]at this;exact this
         obtain⟨xs',vs,h1,h2,h3,h4,h5,_⟩:=hcell i j hi hj
         rw[hxs]at h1
         cases h1
         have hjv:j<vs.length:=by rw[←h2.1,h4];exact hj
         show VR _ _ c ((uh w a.block (a.off+(i * P.cellsOf e+j))).getD Go.undef)
         rw[h5,List.getElem?_eq_getElem hjv]
         exact h2.2 j c vs[j] hc (List.getElem?_eq_getElem hjv)
      ·cases h
    ·simp at h
   ·
    rename_i k e
    simp only[Bool.and_eq_true,beq_iff_eq]at hp
    have h:cs.length=P.cellsOf t ∧∃xs,((List.range k).mapM fun i=>DataW.trod enc P w base spare held n e ((cs.drop (i * P.cellsOf e)).take (P.cellsOf e)))=some xs:=by
     dsimp only at h
     split at h
     ·rename_i hl
      simp only[Option.map_eq_some_iff]at h
      obtain⟨xs,hxs,_⟩:=h
      exact⟨hl,xs,hxs⟩
     ·cases h
    obtain⟨hl,ys,hys⟩:=h
    rw[hp.2]at hl
    have : ∀(k' i0:Nat),i0+k'=k →∃xs,Kz (ShC P m e) k' xs∧VRs (uh w) eF xs (cs.drop (i0 * P.cellsOf e)):=by
     intro k'
     induction k' with
     | zero =>
      intro i0 hi
      refine⟨[],rfl,?_⟩
      rw[List.drop_of_length_le (by rw[hl,←hi];simp)]
      exact VRs.nil
     | succ k' ihk =>
      intro i0 hi
      obtain⟨b,hb1,hb2⟩:=ihk (i0+1) (by omega)
      obtain⟨y,_,hf⟩:=iu hys i0 i0 (by rw[List.getElem?_range (by omega)])
      obtain⟨a,ha1,ha2⟩:=ih m e _ y.1 y.2 hp.1 hf
      refine⟨a++b,⟨a,b,rfl,ha1,hb1⟩,?_⟩
      have:cs.drop (i0 * P.cellsOf e)=(cs.drop (i0 * P.cellsOf e)).take (P.cellsOf e)++cs.drop ((i0+1) * P.cellsOf e):=by
       rw[Nat.succ_mul,←List.drop_drop,List.take_append_drop]
      rw[this]
      exact ha2.append hb2
    obtain⟨xs,h1,h2⟩:=this k 0 (by omega)
    exact⟨xs,h1,by simpa using h2⟩
   ·
    rename_i fs
    simp only[Bool.and_eq_true,beq_iff_eq,List.all_eq_true]at hp
    have h:cs.length=P.cellsOf t ∧∃xs,(fs.toList.mapM fun f=>DataW.trod enc P w base spare held n f.type ((cs.drop f.offset).take (P.cellsOf f.type)))=some xs:=by
     dsimp only at h
     split at h
     ·rename_i hl
      simp only[Option.map_eq_some_iff]at h
      obtain⟨xs,hxs,_⟩:=h
      exact⟨hl,xs,hxs⟩
     ·cases h
    obtain⟨hl,ys,hys⟩:=h
    have : ∀(l:List Field)(o:Nat),(∀f∈l,plain P m f.type=true)→(∀f∈l,∃y,DataW.trod enc P w base spare held n f.type ((cs.drop f.offset).take (P.cellsOf f.type))=some y)→layout P l o=some cs.length →
     ∃xs,ShFs (ShC P m) l xs∧VRs (uh w) eF xs (cs.drop o):=by
     intro l
     induction l with
     | nil =>
      intro o _ _ hlay
      simp[layout]at hlay
      refine⟨[],rfl,?_⟩
      rw[List.drop_of_length_le (by omega)]
      exact VRs.nil
     | cons f l ihl =>
      intro o hpl htr hlay
      unfold layout at hlay
      split at hlay
      ·rename_i ho
       obtain⟨b,hb1,hb2⟩:=ihl (o+P.cellsOf f.type) (fun f hf=>hpl f (List.mem_cons_of_mem _ hf)) (fun f hf=>htr f (List.mem_cons_of_mem _ hf)) hlay
       obtain⟨y,hf⟩:=htr f (List.mem_cons_self ..)
       obtain⟨a,ha1,ha2⟩:=ih m f.type _ y.1 y.2 (hpl f (List.mem_cons_self ..)) hf
       rw[ho]at ha2
       refine⟨a++b,⟨a,b,rfl,ha1,hb1⟩,?_⟩
       have:cs.drop o=(cs.drop o).take (P.cellsOf f.type)++cs.drop (o+P.cellsOf f.type):=by
        rw[←List.drop_drop,List.take_append_drop]
       rw[this]
       exact ha2.append hb2
      ·cases hlay
    obtain⟨xs,h1,h2⟩:=this fs.toList 0 hp.1 (fun f hf=>by
     obtain⟨i,hi,rfl⟩:=List.getElem_of_mem hf
     obtain⟨y,_,hy⟩:=iu hys i fs.toList[i] (List.getElem?_eq_getElem hi)
     exact⟨y,hy⟩) (by rw[hl];exact hp.2)
    exact⟨xs,h1,by simpa using h2⟩
def ShV(P:Program)(n:Nat)(t:TypeId)(x:AV):Prop :=
 match tagg P t with
 | some true =>∃xs,x = .agg xs∧ShC P n t xs
 | _=>ShC P n t [x]
def ShVs(P:Program)(n:Nat):List TypeId→List AV→Prop
 | [],[]=>True
 | t :: ts,x :: xs=>ShV P n t x∧ShVs P n ts xs
 | _,_=>False
theorem Hd{m:Nat}{t:TypeId}{v:Value}{d:DataW H}{ps:List MemPlace}(hp:plain P m t=true)(hok:Value.okWide P w .any base t v){base':Nat}(h:DataW.Trod enc P w base' spare held t v d ps) :
 ∃x:AV,ShV P m t x∧VR (uh w) eF x v:=by
 obtain⟨n,hn⟩:=h
 obtain⟨xs,h1,h2⟩:=Hf n m t v.cells.toList d ps hp hn
 unfold ShV
 by_cases hag:tagg P t=some true
 ·rw[hag]
  have : ∃cs,v = .agg cs:=by
   unfold tagg at hag
   unfold Value.okWide at hok
   cases hu:P.underlying t with
   | none=>rw[hu]at hag;simp at hag
   | some dd=>rw[hu]at hag hok;cases dd<;>simp at hag<;>(obtain⟨cs,rfl,_⟩:=hok;exact⟨cs,rfl⟩)
  obtain⟨cs,rfl⟩:=this
  exact⟨.agg xs,⟨xs,rfl,h1⟩,VR.nB.2 h2⟩
 ·have hv:v.cells = #[v] ∧∃x,xs=[x]:=by
   have hf:=h1.facts m t xs hp
   cases m with
   | zero=>simp[plain]at hp
   | succ m =>
   have hp':=hp
   unfold plain at hp'
   unfold tagg at hag
   unfold Value.okWide at hok
   cases hu:P.underlying t with
   | none=>rw[hu]at hp';simp at hp'
   | some dd =>
    rw[hu]at hp' hag hok
    have fin:P.cellsOf t=1→Cell.okWide P w .any base t v→v.cells = #[v] ∧∃x,xs=[x]:=by
     intro hc hcell
     refine⟨?_,?_⟩
     ·cases v<;>try rfl
      exfalso
      unfold Cell.okWide at hcell
      rw[hu]at hcell
      cases dd<;>simp at hp' hag<;>(simp[Cell.ok,hu]at hcell)
     ·have:=hf.1
      rw[hc]at this
      match xs,this with
      | [x],_=>exact⟨x,rfl⟩
    cases dd<;>simp at hp' hag
    ·exact fin hp' hok
    ·exact fin hp' hok
    ·exact fin hp' hok
    ·exact fin hp'.1.1 hok
  obtain⟨hv,x,rfl⟩:=hv
  rw[hv]at h2
  refine⟨x,?_,h2.2 0 x v rfl rfl⟩
  have:(match tagg P t with | some true =>∃xs,x = .agg xs∧ShC P m t xs | _=>ShC P m t [x])=ShC P m t [x]:=by
   split
   ·rename_i hh;exact(hag hh).elim
   ·rfl
  rw[this]
  exact h1
theorem LP{m:Nat}{base':Nat} : ∀ {ts:List TypeId} {vs:List Value} {ds:List (DataW H)} {ps:List MemPlace},ts.all (plain P m)=true→(∀(j:Nat) t v,ts[j]?=some t→vs[j]?=some v→Value.okWide P w .any base t v) →
 DataW.TrodAll enc P w base' spare held ts vs ds ps →∃xs:List AV,ShVs P m ts xs∧VRs (uh w) eF xs vs:=by
 intro ts
 induction ts with
 | nil =>
  intro vs ds ps _ _ h
  obtain⟨rfl,_,_⟩:=trodAll_nil h
  exact⟨[],trivial,VRs.nil⟩
 | cons t ts ih =>
  intro vs ds ps hp hok h
  obtain⟨v,vs',d,ds',p,q,rfl,rfl,rfl,h1,h2⟩:=trodAll_cons h
  simp only[List.all_cons,Bool.and_eq_true]at hp
  obtain⟨x,hx1,hx2⟩:=Hd hp.1 (hok 0 t v rfl rfl) h1
  obtain⟨xs,hs1,hs2⟩:=ih hp.2 (fun j t v h1 h2=>hok (j+1) t v h1 h2) h2
  exact⟨x :: xs,⟨hx1,hs1⟩,VRs.cons hx2 hs2⟩
end
theorem Ep{H:Type}{enc:TypeId × Value→H}{P:Program}{w:World}{base:Nat}{spare:Nat→Bool}{held:Bool} : ∀ {ts:List TypeId} {vs:List Value} {ds:List (DataW H)} {ps:List MemPlace},
 DataW.TrodAll enc P w base spare held ts vs ds ps→ds.length=ts.length:=by
 intro ts
 induction ts with
 | nil=>intro vs ds ps h;obtain⟨_,rfl,_⟩:=trodAll_nil h;rfl
 | cons t ts ih =>
  intro vs ds ps h
  obtain⟨v,vs',d,ds',p,q,rfl,rfl,rfl,_,h2⟩:=trodAll_cons h
  simp[ih h2]
theorem rj{P:Program}{n:Nat}{t:TypeId}{ts:List TypeId}{xs:List AV}(h:ShVs P n (t :: ts) xs) : ∃x xs',xs=x :: xs'∧ShV P n t x∧ShVs P n ts xs':=by
 cases xs with
 | nil=>exact h.elim
 | cons x xs=>exact⟨x,xs,rfl,h.1,h.2⟩
theorem K1{P:Program}{n:Nat}{xs:List AV}(h:ShVs P n [] xs):xs=[]:=by
 cases xs with
 | nil=>rfl
 | cons x xs=>exact h.elim
theorem Ck{E:Env}{ok:Array Oper→Bool}(hE:E.Ok ok){T:TypeId→Prop}(K:Kids E.P T)(hz : ∀t e,T t→E.P.underlying t=some (.slice e)→0<E.P.cellsOf e){H:Type}{enc:TypeId × Value→H}{id:FuncId}{f:Func}{s:ChangeSpec}{apart fresh handsOn again:Bool}{m:Nat}
 (hT : ∀t∈f.params.toList,T t) (hp:f.params.toList.all (plain E.P m)=true) (hv:s.vars=[]) (hs : ∀ds:List (DataW H),ds.length=f.params.toList.length→s.fn H ds = { results:=[.lit (.bool true)],args:=ds}) (hr:Fy E.P f=true)
 (h : ∀xs,ShVs E.P m f.params.toList xs→limf E id xs=some (.v (.bool true)))
 (W:World) (base:Nat) (args:Array Value) (ds gs:List (DataW H)) (before:List MemPlace) (hval : ∀(j:Nat) t v,f.params[j]?=some t→args[j]?=some v→Value.okWide E.P W .any base t v)
 (hW:DataW.Whole enc E.P f.params.toList s.vars apart W args.toList ds gs before) :
 Calls E.P id args W fun e W' =>∃v,e = .returned v∧s.post enc E.P f apart fresh handsOn again W args v W':=by
 obtain⟨tb,hr,hb⟩:=HP hr
 have hW0:=hW
 obtain⟨p,q,hA,hV,rfl,hfz,hnd⟩:=hW0
 obtain⟨xs,hx1,hx2⟩:=LP hp (fun j t v h1 h2=>hval j t v (by simpa using h1) (by simpa using h2)) hA
 obtain⟨n,hrun⟩:=L5 (h xs hx1)
 have hdl:ds.length=f.params.toList.length:=Ep hA
 refine(HM hE hrun (us:=args.toList) hx2).mono fun e W' ⟨he,hk⟩=>⟨_,he,?_⟩
 exact Jj K hz hT hv hW (hs ds hdl) hr hb hk
end Go.Ab
namespace Go.Ab
def Rep{α:Type}(P:Program)(t:TypeId)(ok:α→Prop)(enc:α→List AV):Prop :=∀n xs,ShC P n t xs →∃a,ok a∧xs=enc a
def isBool(P:Program)(t:TypeId):Bool:=match P.underlying t with | some .bool=>true | _=>false
def fM(P:Program)(t:TypeId):Option (List TypeId):=match P.underlying t with | some (.struct fs)=>some (fs.toList.map (·.type)) | _=>none
theorem F5{P:Program}{t:TypeId}(h:isBool P t=true):Rep P t (fun _=>True) fun b:Bool=>[aB b]:=by
 intro n xs hx
 cases n with
 | zero=>exact hx.elim
 | succ n =>
  unfold isBool at h
  unfold ShC at hx
  split at h
  ·rename_i hu;rw[hu]at hx;obtain⟨b,rfl⟩:=hx;exact⟨b,trivial,rfl⟩
  ·cases h
theorem Cd{P:Program}{t:TypeId}{k:IntKind}(h:intKind P t=some k):Rep P t (fun i:Int=>k.min≤i∧i≤k.max) fun i:Int=>[.v (.int k i)]:=by
 intro n xs hx
 cases n with
 | zero=>exact hx.elim
 | succ n =>
  unfold ShC at hx
  rw[xy h]at hx
  obtain⟨i,hi,rfl⟩:=hx
  exact⟨i,hi,rfl⟩
theorem na{P:Program}{t:TypeId}(h:intKind P t=some .i64):Rep P t (fun i:Int => -9223372036854775808≤i∧i≤9223372036854775807) fun i:Int=>[aI i]:=fun n xs hx=>by
 obtain⟨i,hi,rfl⟩:=Cd h n xs hx;exact⟨i,hi,rfl⟩
theorem OA{P:Program}{t:TypeId}(h:intKind P t=some .i32):Rep P t (fun i:Int => -2147483648≤i∧i≤2147483647) fun i:Int=>[.v (.int .i32 i)]:=fun n xs hx=>by
 obtain⟨i,hi,rfl⟩:=Cd h n xs hx;exact⟨i,hi,rfl⟩
theorem Ls{P:Program}{t:TypeId}(h:intKind P t=some .u8):Rep P t (fun _=>True) fun b:UInt8=>[a8 b]:=fun n xs hx=>by
 obtain⟨i,hi,rfl⟩:=Cd h n xs hx
 refine⟨u8 i,trivial,?_⟩
 have h1:(0:Int)≤i:=hi.1
 have h2:i≤255:=hi.2
 unfold a8
 show[AV.v (.int .u8 i)]=[AV.v (.int .u8 ((u8 i).toNat:Int))]
 rw[Di,Int.emod_eq_of_lt h1 (by omega),Int.toNat_of_nonneg h1]
theorem RU{P:Program}{t:TypeId}(h:intKind P t=some .u32):Rep P t (fun _=>True) fun b:UInt32=>[a32 b]:=fun n xs hx=>by
 obtain⟨i,hi,rfl⟩:=Cd h n xs hx
 refine⟨u32 i,trivial,?_⟩
 have h1:(0:Int)≤i:=hi.1
 have h2:i≤4294967295:=hi.2
 unfold a32
 show[AV.v (.int .u32 i)]=[AV.v (.int .u32 ((u32 i).toNat:Int))]
 rw[Bt,Int.emod_eq_of_lt h1 (by omega),Int.toNat_of_nonneg h1]
theorem OY{α:Type}{ok:α→Prop}{enc:α→List AV} : ∀(es:List (List AV)),(∀x∈es,∃a,ok a∧x=enc a) →∃l:List α,(∀a∈l,ok a)∧es=l.map enc:=by
 intro es
 induction es with
 | nil=>intro _;exact⟨[],by simp,rfl⟩
 | cons x es ih =>
  intro h
  obtain⟨a,ha,rfl⟩:=h x (List.mem_cons_self ..)
  obtain⟨l,hl,rfl⟩:=ih fun x hx=>h x (List.mem_cons_of_mem _ hx)
  refine⟨a :: l,?_,rfl⟩
  intro b hb
  rcases List.mem_cons.1 hb with rfl | hb
  ·exact ha
  ·exact hl b hb
theorem Ik{P:Program}{t e:TypeId}(h:eJ P t=some e):P.underlying t=some (.slice e):=by
 unfold eJ at h
 split at h
 ·cases h;assumption
 ·cases h
theorem yv{α:Type}{P:Program}{t e:TypeId}{z:Nat}{ag:Bool}{ok:α→Prop}{enc:α→List AV}(he:eJ P t=some e)(hz:aP P e=some z)(ha:tagg P e=some ag)(hR:Rep P e ok enc){n:Nat}{xs:List AV}(h:ShC P n t xs) :
 ∃(l:List α) (x:AV),(∀a∈l,ok a)∧xs=[x]∧Sl z (l.map fun a=>mkEl ag (enc a)) x:=by
 cases n with
 | zero=>exact h.elim
 | succ n =>
  unfold ShC at h
  rw[Ik he]at h
  rcases h with rfl | ⟨es,rfl,hall⟩
  ·exact⟨[],aNil,by simp,rfl,.inl ⟨rfl,rfl⟩⟩
  ·obtain⟨l,hl,rfl⟩:=OY es fun x hx=>hR n x (hall x hx)
   have hc:P.cellsOf e=z:=by
    unfold aP at hz
    unfold Program.cellsOf
    rw[hz];rfl
   refine⟨l,_,hl,rfl,?_⟩
   rw[hc,ha,List.map_map]
   exact Sl.mk z _
theorem ShV.cell{P:Program}{n:Nat}{t:TypeId}{x:AV}(ha:tagg P t=some false)(h:ShV P n t x):ShC P n t [x]:=by
 unfold ShV at h;rw[ha]at h;exact h
theorem ShV.agg{P:Program}{n:Nat}{t:TypeId}{x:AV}(ha:tagg P t=some true)(h:ShV P n t x) : ∃xs,x = .agg xs∧ShC P n t xs:=by
 unfold ShV at h;rw[ha]at h;exact h
def ShTs(S:TypeId→List AV→Prop):List TypeId→List AV→Prop
 | [],xs=>xs=[]
 | t :: ts,xs =>∃a b,xs=a++b∧S t a∧ShTs S ts b
theorem iM{P:Program}{t:TypeId}{ts:List TypeId}(ht:fM P t=some ts){n:Nat}{xs:List AV}(h:ShC P n t xs) : ∃m,ShTs (ShC P m) ts xs:=by
 cases n with
 | zero=>exact h.elim
 | succ n =>
  unfold fM at ht
  split at ht
  ·rename_i fs hu
   cases ht
   unfold ShC at h
   rw[hu]at h
   refine⟨n,?_⟩
   dsimp only at h
   generalize fs.toList=l at h
   induction l generalizing xs with
   | nil=>exact h
   | cons f l ih =>
    obtain⟨a,b,rfl,ha,hb⟩:=h
    exact⟨a,b,rfl,ha,ih hb⟩
  ·cases ht
end Go.Ab
namespace Go.Ab
def sU(P:Program)(d e c:Nat)(xs ys:Array Value):List Nat→Option Bool
 | []=>some true
 | i :: is=>match bn P (part e xs (i * c)),bn P (part e ys (i * c)) with
  | some a,some b=>(match bn P (Op.equalIn d e a b) with
   | some true=>sU P d e c xs ys is
   | some false=>some false
   | none=>none)
  | _,_=>none
theorem Jh{P:Program}{t:TypeId}{z:Nat}(h:aP P t=some z):bn P (sizeOf t)=some z:=by
 simp only[aP,Option.map_eq_some_iff]at h
 obtain⟨i,hi,rfl⟩:=h
 simp only[sizeOf,typeInfo,bt]
 show((some P).bind _).bind _=_
 simp only[Option.bind_some,hi]
 rfl
theorem xW{P:Program}(d:Nat){t e:TypeId}{n c:Nat}(xs ys:Array Value)(hu:P.underlying t=some (.array n e))(hi:aP P e=some c) :
 bn P (Op.equalIn (d+1) t (.agg xs) (.agg ys))=sU P d e c xs ys (List.range n):=by
 simp only[Op.equalIn,bt,iO hu,Option.bind_some,Jh hi]
 simp only[Std.Legacy.Range.forIn_eq_forIn_range',Std.Legacy.Range.size,Nat.sub_zero,Nat.add_one_sub_one,Nat.div_one,List.range_eq_range']
 generalize List.range' 0 n=is
 induction is with
 | nil=>rfl
 | cons j is ih =>
  simp only[List.forIn_cons,sU,bt]
  cases h1:bn P (part e xs (j * c)) with
  | none=>rfl
  | some a =>
   cases h2:bn P (part e ys (j * c)) with
   | none=>rfl
   | some b =>
    simp only[Option.bind_some]
    cases h3:bn P (Op.equalIn d e a b) with
    | none=>rfl
    | some r =>
     cases r
     ·rfl
     ·simp only[Option.bind_some,Bool.not_true,Bool.false_eq_true,if_false]
      exact ih
def pj(P:Program)(d:Nat)(xs ys:Array Value):List Field→Option Bool
 | []=>some true
 | f :: fs=>match bn P (part f.type xs f.offset),bn P (part f.type ys f.offset) with
  | some a,some b=>(match bn P (Op.equalIn d f.type a b) with
   | some true=>pj P d xs ys fs
   | some false=>some false
   | none=>none)
  | _,_=>none
theorem wx{P:Program}(d:Nat){t:TypeId}{fs:Array Field}(xs ys:Array Value)(hu:P.underlying t=some (.struct fs))(hs:P.stoodInHeld t=false)(hn : ∀f∈fs.toList,(f.name != "_")=true) :
 bn P (Op.equalIn (d+1) t (.agg xs) (.agg ys))=pj P d xs ys fs.toList:=by
 have hp:bn P program=some P:=rfl
 simp only[Op.equalIn,bt,iO hu,Option.bind_some,hp,hs,Bool.false_eq_true,if_false]
 simp only[←Array.forIn_toList]
 generalize fs.toList=is at hn
 induction is with
 | nil=>rfl
 | cons f is ih =>
  have hf:f.name ≠ "_" := by simpa using hn f (List.mem_cons_self ..)
  simp only[List.forIn_cons,pj,bt,hf,ne_eq,not_false_eq_true,if_true]
  have hpu:bn P (pure PUnit.unit:Sem PUnit)=some PUnit.unit:=rfl
  cases h1:bn P (part f.type xs f.offset) with
  | none=>rfl
  | some a =>
   cases h2:bn P (part f.type ys f.offset) with
   | none=>rfl
   | some b =>
    simp only[Option.bind_some]
    cases h3:bn P (Op.equalIn d f.type a b) with
    | none=>rfl
    | some r =>
     cases r
     ·rfl
     ·simp only[Option.bind_some,Bool.not_true,Bool.false_eq_true,if_false]
      exact ih fun g hg=>hn g (List.mem_cons_of_mem _ hg)
def zU:List AV→List AV→Option Bool
 | [.v (.bool a)],[.v (.bool b)]=>some (decide (a=b))
 | [.v (.int k a)],[.v (.int k' b)]=>if k=k' then some (decide (a=b)) else none
 | [.v (.string a)],[.v (.string b)]=>some (a == b)
 | _,_=>none
def eqFs(S:TypeId→List AV→List AV→Option Bool)(P:Program):List TypeId→List AV→List AV→Option Bool
 | [],_,_=>some true
 | t :: ts,xs,ys=>match aP P t with
  | none=>none
  | some z=>match S t (xs.take z) (ys.take z),eqFs S P ts (xs.drop z) (ys.drop z) with
   | some a,some b=>some (a&&b)
   | _,_=>none
def HF(S:List AV→List AV→Option Bool)(z:Nat):Nat→List AV→List AV→Option Bool
 | 0,_,_=>some true
 | k+1,xs,ys=>match S (xs.take z) (ys.take z),HF S z k (xs.drop z) (ys.drop z) with
  | some a,some b=>some (a&&b)
  | _,_=>none
def pd(P:Program)(t:TypeId):Option Nat:=match P.underlying t with
 | some .bool=>some 0
 | some (.int _)=>some 1
 | some .string=>some 2
 | _=>none
def Hn:AV→Nat
 | .v (.bool _)=>0
 | .v (.int _ _)=>1
 | .v (.string _)=>2
 | _=>3
def eqA(P:Program):Nat→TypeId→List AV→List AV→Option Bool
 | 0,_,_,_=>none
 | n+1,t,xs,ys=>match pd P t with
  | some l=>(match xs,ys with
   | [x],[y]=>cond (Nat.beq (Hn x) l) (zU [x] [y]) none
   | _,_=>none)
  | none=>match fM P t with
   | some ts=>eqFs (eqA P n) P ts xs ys
   | none=>match tarr P t with
    | some (k,e)=>(match aP P e with
     | some z=>HF (eqA P n e) z k xs ys
     | none=>none)
    | none=>none
def eqOk(P:Program):Nat→TypeId→Bool
 | 0,_=>false
 | n+1,t=>match P.underlying t with
  | some .bool | some (.int _) | some .string=>tagg P t == some false&&aP P t == some 1
  | some (.struct fs)=>fs.toList.all (fun f=>eqOk P n f.type&&f.name != "_")&&layout P fs.toList 0 == some (P.cellsOf t) && !P.stoodInHeld t
  | some (.array k e)=>eqOk P n e&&P.cellsOf t == k * P.cellsOf e
  | _=>false
def unVs(xs:List AV):Option (List Value):=xs.mapM unV
theorem uM{xs:List AV}{vs:List Value}(h:unVs xs=some vs)(n:Nat):unVs (xs.take n)=some (vs.take n):=by
 unfold unVs at *
 induction xs generalizing vs n with
 | nil=>simp at h;subst h;simp
 | cons x xs ih =>
  simp only[List.mapM_cons,Option.pure_def,Option.bind_eq_bind,Option.bind_eq_some_iff]at h
  obtain⟨v,hv,vs',hvs,e⟩:=h
  cases e
  cases n with
  | zero=>simp
  | succ n=>simp only[List.take_succ_cons,List.mapM_cons,hv,ih hvs n];rfl
theorem uN{xs:List AV}{vs:List Value}(h:unVs xs=some vs)(n:Nat):unVs (xs.drop n)=some (vs.drop n):=by
 unfold unVs at *
 induction xs generalizing vs n with
 | nil=>simp at h;subst h;simp
 | cons x xs ih =>
  simp only[List.mapM_cons,Option.pure_def,Option.bind_eq_bind,Option.bind_eq_some_iff]at h
  obtain⟨v,hv,vs',hvs,e⟩:=h
  cases e
  cases n with
  | zero=>simp only[List.drop_zero,List.mapM_cons,hv,hvs];rfl
  | succ n=>simp only[List.drop_succ_cons];exact ih hvs n
def uL(P:Program)(t:TypeId)(vs:List Value):Option Value:=match tagg P t with
 | some true=>some (.agg vs.toArray)
 | some false=>vs.head?
 | none=>none
theorem Ch{P:Program}{t:TypeId}{z:Nat}(hz:aP P t=some z){vs:List Value}{o:Nat}{v:Value}(hv:uL P t ((vs.drop o).take z)=some v)(h1:tagg P t=some false→z=1):bn P (part t vs.toArray o)=some v:=by
 unfold uL at hv
 have hag : ∀b,tagg P t=some b→bn P (isAgg t)=some b:=by
  intro b hb
  simp only[tagg,Option.map_eq_some_iff]at hb
  obtain⟨dd,hd,rfl⟩:=hb
  simp only[isAgg,bt,iO hd,Option.bind_some]
  cases dd<;>rfl
 unfold part
 split at hv
 ·rename_i ha
  cases hv
  simp only[bt,hag _ ha,Option.bind_some,if_true,Jh hz]
  show some _=some _
  congr 2
  apply Array.toList_inj.1
  simp only[Array.toList_extract,List.extract_eq_take_drop,Nat.add_sub_cancel_left]
 ·rename_i ha
  simp only[bt,hag _ ha,Option.bind_some,Bool.false_eq_true,if_false]
  have:vs.toArray[o]?=some v:=by
   rw[h1 ha]at hv
   rw[List.getElem?_toArray]
   cases hd:vs.drop o with
   | nil=>rw[hd]at hv;simp at hv
   | cons u us =>
    rw[hd]at hv
    simp at hv
    subst hv
    have:=congrArg List.head? hd
    simpa [List.head?_drop] using this
  rw[this]
  rfl
 ·cases hv
theorem NO{P:Program} : ∀(n:Nat)(D:Nat)(t:TypeId)(xs ys:List AV)(us vs:List Value)(b:Bool),eqOk P n t=true→eqA P n t xs ys=some b→unVs xs=some us→unVs ys=some vs→xs.length=P.cellsOf t→ys.length=P.cellsOf t →
 ∃u v,uL P t us=some u∧uL P t vs=some v∧bn P (Op.equalIn (D+n) t u v)=some b:=by
 intro n
 induction n with
 | zero=>intro D t xs ys us vs b h;simp[eqOk]at h
 | succ n ih =>
  intro D t xs ys us vs b hok h hu hv hlx hly
  unfold eqOk at hok
  unfold eqA at h
  cases hd:P.underlying t with
  | none=>rw[hd]at hok;simp at hok
  | some dd =>
   rw[hd]at hok
   have leaf : ∀l,pd P t=some l→(tagg P t == some false&&aP P t == some 1)=true→(l=0∧dd = .bool∨(l=1 ∧∃k,dd = .int k)∨l=2∧dd = .string) →∃u v,uL P t us=some u∧uL P t vs=some v∧bn P (Op.equalIn (D+(n+1)) t u v)=some b:=by
    intro l hl hok hdd
    simp only[Bool.and_eq_true,beq_iff_eq]at hok
    rw[hl]at h
    dsimp only at h
    split at h
    ·rename_i x y
     cases hb:Nat.beq (Hn x) l with
     | false=>rw[hb]at h;cases h
     | true =>
      rw[hb]at h
      replace hb:=Nat.eq_of_beq_eq_true hb
      have e1 : ∃u,us=[u]∧unV x=some u:=by
       unfold unVs at hu;simp only[List.mapM_cons,List.mapM_nil,Option.pure_def,Option.bind_eq_bind,Option.bind_eq_some_iff]at hu
       obtain⟨u,h1,ws,h2,h3⟩:=hu
       cases h2;cases h3;exact⟨u,rfl,h1⟩
      have e2 : ∃u,vs=[u]∧unV y=some u:=by
       unfold unVs at hv;simp only[List.mapM_cons,List.mapM_nil,Option.pure_def,Option.bind_eq_bind,Option.bind_eq_some_iff]at hv
       obtain⟨u,h1,ws,h2,h3⟩:=hv
       cases h2;cases h3;exact⟨u,rfl,h1⟩
      obtain⟨u,rfl,hu1⟩:=e1
      obtain⟨v,rfl,hv1⟩:=e2
      refine⟨u,v,by simp[uL,hok.1],by simp[uL,hok.1],?_⟩
      rw[show D+(n+1)=(D+n)+1 from rfl]
      simp only[cond_true]at h
      unfold zU at h
      simp only[Op.equalIn,bt,iO hd,Option.bind_some]
      split at h
      ·rename_i a c ea ec
       simp only[List.cons.injEq,and_true]at ea ec
       subst ea;subst ec
       simp[unV]at hu1 hv1
       subst hu1;subst hv1
       have hl0:l=0:=hb.symm
       rcases hdd with ⟨_,rfl⟩ | ⟨h1,_⟩ | ⟨h1,_⟩
       ·rw[←h];show some (a == c)=_;congr 1
       ·omega
       ·omega
      ·rename_i k a k' c ea ec
       simp only[List.cons.injEq,and_true]at ea ec
       subst ea;subst ec
       simp[unV]at hu1 hv1
       subst hu1;subst hv1
       have hl0:l=1:=hb.symm
       rcases hdd with ⟨h1,_⟩ | ⟨_,k0,rfl⟩ | ⟨h1,_⟩
       ·omega
       ·split at h
        ·rename_i hk
         subst hk
         rw[←h]
         show bn P (if k=k then pure (a == c) else _)=_
         rw[if_pos rfl]
         show some (a == c)=_
         congr 1
        ·cases h
       ·omega
      ·rename_i a c ea ec
       simp only[List.cons.injEq,and_true]at ea ec
       subst ea;subst ec
       simp[unV]at hu1 hv1
       subst hu1;subst hv1
       have hl0:l=2:=hb.symm
       rcases hdd with ⟨h1,_⟩ | ⟨h1,_⟩ | ⟨_,rfl⟩
       ·omega
       ·omega
       ·rw[←h];rfl
      ·cases h
    ·cases h
   have hlt : ∀l,pd P t=some l→_:=fun l hl=>leaf l hl
   cases dd<;>dsimp only at hok<;>try (simp at hok;done)
   ·exact leaf 0 (by simp[pd,hd]) hok (.inl ⟨rfl,rfl⟩)
   ·rename_i k;exact leaf 1 (by simp[pd,hd]) hok (.inr (.inl ⟨rfl,k,rfl⟩))
   ·exact leaf 2 (by simp[pd,hd]) hok (.inr (.inr ⟨rfl,rfl⟩))
   ·
    rename_i k e
    simp only[Bool.and_eq_true,beq_iff_eq]at hok
    obtain⟨hok,hcell⟩:=hok
    have hl:pd P t=none:=by simp[pd,hd]
    have hf:fM P t=none:=by simp[fM,hd]
    have hta:tarr P t=some (k,e):=by simp[tarr,hd]
    rw[hl,hf,hta]at h
    dsimp only at h
    have hag:tagg P t=some true:=by simp[tagg,hd]
    cases hz:aP P e with
    | none=>rw[hz]at h;cases h
    | some z =>
     rw[hz]at h
     dsimp only at h
     have hcz:P.cellsOf e=z:=by simp only[aP]at hz;simp[Program.cellsOf,hz]
     have hone:tagg P e=some false→z=1:=by
      intro hagf
      cases n with
      | zero=>simp[eqOk]at hok
      | succ n' =>
       unfold eqOk at hok
       unfold tagg at hagf
       cases huf:P.underlying e with
       | none=>rw[huf]at hok;simp at hok
       | some d2 =>
        rw[huf]at hok hagf
        cases d2<;>simp at hok hagf<;>(have:=hok.2;rw[hz]at this;simpa using this)
     refine⟨.agg us.toArray,.agg vs.toArray,by simp[uL,hag],by simp[uL,hag],?_⟩
     rw[show D+(n+1)=(D+n)+1 from rfl,xW (D+n) _ _ hd hz]
     have : ∀(m i0:Nat)(b:Bool),(i0+m) * z≤xs.length→(i0+m) * z≤ys.length→HF (eqA P n e) z m (xs.drop (i0 * z)) (ys.drop (i0 * z))=some b→sU P (D+n) e z us.toArray vs.toArray (List.range' i0 m)=some b:=by
      intro m
      induction m with
      | zero=>intro i0 b _ _ h;simp[HF]at h;simp[sU,h]
      | succ m ihm =>
       intro i0 b hx hy h
       simp only[HF]at h
       have hmul:(i0+(m+1)) * z=i0 * z+z+m * z:=by rw[Nat.add_mul,Nat.succ_mul];omega
       rw[hmul]at hx hy
       cases h1:eqA P n e ((xs.drop (i0 * z)).take z) ((ys.drop (i0 * z)).take z) with
       | none=>rw[h1]at h;simp at h
       | some a =>
        rw[h1]at h
        cases h2:HF (eqA P n e) z m ((xs.drop (i0 * z)).drop z) ((ys.drop (i0 * z)).drop z) with
        | none=>rw[h2]at h;simp at h
        | some c =>
         rw[h2]at h
         simp only[Option.some.injEq]at h
         rw[List.drop_drop,List.drop_drop,←Nat.succ_mul]at h2
         obtain⟨u,v,hu1,hv1,heq⟩:=ih D e _ _ _ _ a hok h1 (uM (uN hu (i0 * z)) z) (uM (uN hv (i0 * z)) z)
          (by rw[List.length_take,List.length_drop,hcz];omega) (by rw[List.length_take,List.length_drop,hcz];omega)
         have p1:=Ch hz (o:=i0 * z) hu1 hone
         have p2:=Ch hz (o:=i0 * z) hv1 hone
         simp only[List.range'_succ,sU,p1,p2,heq]
         cases a with
         | false=>simp at h;simp[h]
         | true =>
          simp only[Bool.true_and]at h
          subst h
          exact ihm (i0+1) c (by rw[show i0+1+m=i0+(m+1) by omega,hmul];exact hx) (by rw[show i0+1+m=i0+(m+1) by omega,hmul];exact hy) h2
     rw[List.range_eq_range']
     by_cases hk0:k * z≤xs.length∧k * z≤ys.length
     ·exact this k 0 b (by simpa using hk0.1) (by simpa using hk0.2) (by simpa using h)
     ·exfalso
      rw[hcz]at hcell
      exact hk0 ⟨by omega,by omega⟩
   ·
    rename_i fs
    simp only[Bool.and_eq_true,Bool.not_eq_true',List.all_eq_true,beq_iff_eq]at hok
    obtain⟨⟨hall,hlay⟩,hst⟩:=hok
    have hl:pd P t=none:=by simp[pd,hd]
    have hf:fM P t=some (fs.toList.map (·.type)):=by simp[fM,hd]
    rw[hl,hf]at h
    dsimp only at h
    have hag:tagg P t=some true:=by simp[tagg,hd]
    refine⟨.agg us.toArray,.agg vs.toArray,by simp[uL,hag],by simp[uL,hag],?_⟩
    rw[show D+(n+1)=(D+n)+1 from rfl,wx (D+n) _ _ hd hst (fun f hf=>(hall f hf).2)]
    have : ∀(l:List Field)(o:Nat)(b:Bool),(∀f∈l,eqOk P n f.type=true)→layout P l o=some (P.cellsOf t)→eqFs (eqA P n) P (l.map (·.type)) (xs.drop o) (ys.drop o)=some b→o≤P.cellsOf t →
     pj P (D+n) us.toArray vs.toArray l=some b:=by
     intro l
     induction l with
     | nil=>intro o b _ _ h _;simp[eqFs]at h;simp[pj,h]
     | cons f l ihl =>
      intro o b hal hlay h ho
      unfold layout at hlay
      split at hlay
      ·rename_i hfo
       simp only[List.map_cons,eqFs]at h
       cases hz:aP P f.type with
       | none=>rw[hz]at h;cases h
       | some z =>
        rw[hz]at h
        dsimp only at h
        have hcz:P.cellsOf f.type=z:=by simp only[aP]at hz;simp[Program.cellsOf,hz]
        rw[hcz]at hlay
        cases h1:eqA P n f.type ((xs.drop o).take z) ((ys.drop o).take z) with
        | none=>rw[h1]at h;simp at h
        | some a =>
         rw[h1]at h
         cases h2:eqFs (eqA P n) P (l.map (·.type)) ((xs.drop o).drop z) ((ys.drop o).drop z) with
         | none=>rw[h2]at h;simp at h
         | some c =>
          rw[h2]at h
          simp only[Option.some.injEq]at h
          rw[List.drop_drop,List.drop_drop]at h2
          have hle:o+z≤P.cellsOf t:=by
           have : ∀(l:List Field)(o m:Nat),layout P l o=some m→o≤m:=by
            intro l
            induction l with
            | nil=>intro o m h;simp[layout]at h;omega
            | cons g l ihg =>
             intro o m h
             unfold layout at h
             split at h
             ·have:=ihg _ _ h;omega
             ·cases h
           exact this _ _ _ hlay
          obtain⟨u,v,hu1,hv1,heq⟩:=ih D f.type _ _ _ _ a (hal f (List.mem_cons_self ..)) h1 (uM (uN hu o) z) (uM (uN hv o) z)
           (by rw[List.length_take,List.length_drop,hcz];omega) (by rw[List.length_take,List.length_drop,hcz];omega)
          have hone:tagg P f.type=some false→z=1:=by
           intro hagf
           have hk:=hal f (List.mem_cons_self ..)
           cases n with
           | zero=>simp[eqOk]at hk
           | succ n' =>
            unfold eqOk at hk
            unfold tagg at hagf
            cases huf:P.underlying f.type with
            | none=>rw[huf]at hk;simp at hk
            | some d2 =>
             rw[huf]at hk hagf
             cases d2<;>simp at hk hagf<;>(have:=hk.2;rw[hz]at this;simpa using this)
          have p1:=Ch hz (o:=o) hu1 hone
          have p2:=Ch hz (o:=o) hv1 hone
          simp only[pj,hfo,p1,p2,heq]
          cases a with
          | false=>simp at h;simp[h]
          | true =>
           simp only[Bool.true_and]at h
           subst h
           exact ihl (o+z) c (fun g hg=>hal g (List.mem_cons_of_mem _ hg)) hlay h2 hle
      ·cases hlay
    exact this fs.toList 0 b (fun f hf=>(hall f hf).1) hlay (by simpa using h) (Nat.zero_le _)
def eqTy(P:Program)(t:TypeId):Bool:=eqOk P 20 t && !P.eqGuardType P.depth t&&tagg P t == some true
theorem Ji{P:Program}{t:TypeId}(h:eqTy P t=true)(op:BinOp)(ho:op = .eql∨op = .neq)(xo yo:Operand)(xs ys:Array Value) :
 EK P op t xo yo (.agg xs) (.agg ys)=(bn P (Op.equalIn 10000 t (.agg xs) (.agg ys))).map fun b => .bool (if op = .eql then b else !b):=by
 unfold eqTy at h
 simp only[Bool.and_eq_true,Bool.not_eq_true',beq_iff_eq]at h
 have hp:bn P program=some P:=rfl
 unfold EK
 have hg:bn P (eqGuard op t xo yo (.agg xs) (.agg ys))=some ():=by
  rcases ho with rfl | rfl
  ·simp only[eqGuard,Bool.not_true,Bool.false_eq_true,if_false,bt,hp,Option.bind_some,h.1.2,Bool.not_false,if_true];rfl
  ·simp only[eqGuard,Bool.not_true,Bool.false_eq_true,if_false,bt,hp,Option.bind_some,h.1.2,Bool.not_false,if_true];rfl
 rw[bt,hg,Option.bind_some]
 rcases ho with rfl | rfl
 ·show bn P (do pure (Value.bool (←Op.equal t (.agg xs) (.agg ys))))=_
  rw[bt]
  unfold Op.equal Op.maxDepth
  cases bn P (Op.equalIn 10000 t (.agg xs) (.agg ys))<;>rfl
 ·show bn P (do pure (Value.bool (!(←Op.equal t (.agg xs) (.agg ys)))))=_
  rw[bt]
  unfold Op.equal Op.maxDepth
  cases bn P (Op.equalIn 10000 t (.agg xs) (.agg ys))<;>rfl
theorem F9{P:Program}{t:TypeId}(h:eqTy P t=true)(op:BinOp)(ho:op = .eql∨op = .neq)(xo yo:Operand){cs ds:List AV}{b:Bool}(hb:eqA P 20 t cs ds=some b)(hu:(unVs cs).isSome=true)(hv:(unVs ds).isSome=true)
 (hc:some cs.length=aP P t) (hd:some ds.length=aP P t):qBin P op t xo yo (some (.agg cs)) (some (.agg ds))=some (aB (if op = .eql then b else !b),[]):=by
 obtain⟨us,hu⟩:=Option.isSome_iff_exists.1 hu
 obtain⟨vs,hv⟩:=Option.isSome_iff_exists.1 hv
 have h0:=h
 unfold eqTy at h0
 simp only[Bool.and_eq_true,Bool.not_eq_true',beq_iff_eq]at h0
 have hl : ∀ {n:Nat},some n=aP P t→n=P.cellsOf t:=by
  intro n hn
  unfold aP at hn
  unfold Program.cellsOf
  rw[←hn];rfl
 obtain⟨u,v,e1,e2,heq⟩:=NO 20 9980 t cs ds us vs b h0.1.1 hb hu hv (hl hc) (hl hd)
 simp only[uL,h0.2,Option.some.injEq]at e1 e2
 subst e1;subst e2
 have hpr:=Ji h op ho xo yo us.toArray vs.toArray
 rw[heq]at hpr
 have t1:fI (.agg cs)=some (.agg us.toArray):=by show(cs.mapM unV).map _=_;rw[show cs.mapM unV=some us from hu];rfl
 have t2:fI (.agg ds)=some (.agg vs.toArray):=by show(ds.mapM unV).map _=_;rw[show ds.mapM unV=some vs from hv];rfl
 simp only[qBin,isSl,mg,Bool.false_and,Bool.or_self,Bool.false_eq_true,if_false,t1,t2,hpr,Option.map_some,Option.bind_some,gV,scalar,if_true,qVal]
@[simp] theorem M9{P:Program}{t:TypeId}(h:eqTy P t=true)(xo yo:Operand){cs ds:List AV}(hb:(eqA P 20 t cs ds).isSome=true)(hu:(unVs cs).isSome=true)(hv:(unVs ds).isSome=true)
 (hc:some cs.length=aP P t) (hd:some ds.length=aP P t):qBin P .eql t xo yo (some (.agg cs)) (some (.agg ds))=some (aB ((eqA P 20 t cs ds).getD false),[]):=by
 obtain⟨b,hb⟩:=Option.isSome_iff_exists.1 hb
 rw[F9 h .eql (.inl rfl) xo yo hb hu hv hc hd,hb];rfl
@[simp] theorem M7{P:Program}{t:TypeId}(h:eqTy P t=true)(xo yo:Operand){cs ds:List AV}(hb:(eqA P 20 t cs ds).isSome=true)(hu:(unVs cs).isSome=true)(hv:(unVs ds).isSome=true)
 (hc:some cs.length=aP P t) (hd:some ds.length=aP P t):qBin P .neq t xo yo (some (.agg cs)) (some (.agg ds))=some (aB (!(eqA P 20 t cs ds).getD false),[]):=by
 obtain⟨b,hb⟩:=Option.isSome_iff_exists.1 hb
 rw[F9 h .neq (.inr rfl) xo yo hb hu hv hc hd,hb];rfl
@[simp] theorem Tn:unVs []=some []:=id rfl
@[simp] theorem FN(k:IntKind)(n:Int)(l:List AV):unVs (.v (.int k n) :: l)=(unVs l).map (.int k n :: ·):=by
 unfold unVs;simp only[List.mapM_cons,unV];cases l.mapM unV<;>rfl
@[simp] theorem Q3(b:Bool)(l:List AV):unVs (.v (.bool b) :: l)=(unVs l).map (.bool b :: ·):=by
 unfold unVs;simp only[List.mapM_cons,unV];cases l.mapM unV<;>rfl
@[simp] theorem XB(b:UInt8)(l:List AV):unVs (a8 b :: l)=(unVs l).map (.int .u8 b.toNat :: ·):=FN _ _ _
@[simp] theorem VC(b:UInt32)(l:List AV):unVs (a32 b :: l)=(unVs l).map (.int .u32 b.toNat :: ·):=FN _ _ _
@[simp] theorem PJ(a b:Bool):zU [aB a] [aB b]=some (decide (a=b)):=id rfl
@[simp] theorem BI(k:IntKind)(a b:Int):zU [.v (.int k a)] [.v (.int k b)]=some (decide (a=b)):=by simp[zU]
@[simp] theorem U9(a b:UInt8):zU [a8 a] [a8 b]=some (decide (a=b)):=by
 unfold a8;rw[BI];congr 2;rw[←UInt8.toNat_inj];exact propext (by omega)
@[simp] theorem SR(a b:UInt32):zU [a32 a] [a32 b]=some (decide (a=b)):=by
 unfold a32;rw[BI];congr 2;rw[←UInt32.toNat_inj];exact propext (by omega)
@[simp] theorem Qr(b:Bool):Hn (aB b)=0:=id rfl
@[simp] theorem Sw(k:IntKind)(n:Int):Hn (.v (.int k n))=1:=id rfl
@[simp] theorem WM(b:UInt8):Hn (a8 b)=1:=id rfl
@[simp] theorem UK(b:UInt32):Hn (a32 b)=1:=id rfl
end Go.Ab
namespace Go.Ab
@[simp] theorem BB{P:Program}{t:TypeId}(h:((eJ P t).bind (aP P)).isSome=true)(g:Get)(lo hi mx:Option Int) :
 fc P g t (some aNil) (some lo) (some hi) (some mx)=(bounds 0 (some 0) lo hi mx).map fun _=>(aNil,[]):=by
 simp only[fc,h,if_true]
@[simp] theorem G5{P:Program}{t z:Nat}(h:(eJ P t).bind (aP P)=some z)(g:Get)(es:List AV)(c:Option Nat)(lo hi mx:Option Int) :
 fc P g t (some (.isl z es c)) (some lo) (some hi) (some mx)=(bounds es.length c lo hi mx).map fun(l,h,c)=>(.isl z ((es.drop l).take (h - l)) c,[]):=by
 simp only[fc,h,if_true]
theorem FU{P:Program}{t z:Nat}(h:(eJ P t).bind (aP P)=some z)(g:Get){es:List AV}{x:AV}(hx:Sl z es x){n:Int}(h0:0≤n)(hn:n≤es.length) :
 ∃y,fc P g t (some x) (some none) (some (some n)) (some none)=some (y,[])∧Sl z (es.take n.toNat) y:=by
 rcases hx with ⟨rfl,rfl⟩ | ⟨c,rfl,hcap⟩
 ·refine⟨aNil,?_,.inl ⟨rfl,by simp⟩⟩
  rw[BB (by rw[h];rfl)]
  have:n=0:=by simp at hn;omega
  subst this;rfl
 ·refine⟨.isl z (es.take n.toNat) (c.map (· - 0)),?_,.inr ⟨_,rfl,by cases c with | none=>simp | some k=>simp at hcap ⊢;omega⟩⟩
  rw[G5 h]
  simp only[bounds,Option.getD_none,Option.getD_some,Int.le_refl,true_and,if_pos (show 0≤n∧n≤es.length from⟨h0,hn⟩),Option.map_some]
  simp
def sB(l:List UInt8):AV:=aS ⟨l.toArray⟩
theorem Mt{P:Program}{draw wk:Bool}{H:Heap}{r:Ref}{t z by' n:Nat}{ps:List (Nat × AV)}{zz:AV}(hT:elT P t z by'=true)(hsz:n * z≤16777216)(hv:dz H.get ps=some ps)(hrf:bL H.get (ps.map (·.2))=[])
 (hc:ps.all (fun p=>p.2.cells.length == z&&p.2.cells.all AV.one)=true) (hz:(eJ P t).bind (fC P)=some zz) {es:List AV} (hf:fq (List.replicate n zz) ps=some es) :
 gm P draw wk H r t n (some ps)=if draw then some (.isl z es (some n),H) else some (.osl r 0 n (some n),({ r with k:=0},some ⟨z,es,true,false⟩) :: H):=by
 obtain⟨e,zz',h1,h2,h3,h4,h5,h6,h7,h8⟩:=iB hT
 rw[h1]at hz
 simp only[Option.bind_some,h4,Option.some.injEq]at hz
 subst hz
 have hmk:mkSlice P H.get t n ps=some ⟨z,es,true,false⟩:=by
  simp only[mkSlice,h1,hv,h4,h2]
  rw[if_pos ⟨Nat.pos_of_ne_zero h7,hsz,h5,h6,by simpa using hc⟩,hf]
  rfl
 have hq:eK P draw H.get r t n (some ps)=if draw then some (.isl z es (some n),[]) else some (.osl r 0 n (some n),[⟨z,es,true,false⟩]):=by
  simp only[eK,hrf,iE,List.all_nil,if_true,hmk,Option.map_some]
  cases draw<;>rfl
 unfold gm
 rw[hq]
 cases draw<;>rfl
theorem C7{g:Get}{r:Ref}{z:Nat}{es:List AV}{fz:Bool}(hr:g r=some ⟨z,es,true,fz⟩){n:Nat}(hn:n=es.length)(k:Nat)(c:Option Nat):view g (k+1) (.osl r 0 n c)=some (.isl z es c):=by
 subst hn
 rw[BU hr,if_pos ⟨rfl,by simp⟩,List.drop_zero,List.take_length]
theorem Own.keep{z:Nat}{es:List AV}{H H':Heap}{x s s':AV}(h:Own z es H x)(hp : ∀q b,H.get q=some b→s.at?≠some q→H'.get q=some b∧s'.at?≠some q)(hne : ∀q,x.at?=some q→s.at?≠some q):Own z es H' x ∧∀q,x.at?=some q→s'.at?≠some q:=by
 rcases h with ⟨rfl,rfl⟩ | ⟨r,rfl,hr⟩
 ·exact⟨Jn z H',fun q hq=>by simp[AV.at?]at hq⟩
 ·obtain⟨h1,h2⟩:=hp r _ hr (hne r rfl)
  exact⟨.inr ⟨r,rfl,h1⟩,fun q hq=>by simp only[AV.at?,Option.some.injEq]at hq;subst hq;exact h2⟩
theorem Ho{P:Program}{t:TypeId}(h:isBool P t=true):P.underlying t=some .bool:=by
 unfold isBool at h
 split at h
 ·assumption
 ·cases h
theorem Ci{P:Program}{t:TypeId}(h:isBool P t=true)(d:Nat)(a b:Bool):bn P (Op.equalIn (d+1) t (.bool a) (.bool b))=some (a == b):=by
 simp only[Op.equalIn,bt,iO (Ho h),Option.bind_some]
 rfl
theorem Hb{P:Program}{t:TypeId}(h:isBool P t=true)(op:BinOp)(ho:op = .eql∨op = .neq)(xo yo:Operand)(a b:Bool) :
 EK P op t xo yo (.bool a) (.bool b)=some (.bool (if op = .eql then a == b else !(a == b))):=by
 have he:bn P (Op.equal t (.bool a) (.bool b))=some (a == b):=Ci h 9999 a b
 unfold EK
 rcases ho with rfl | rfl
 ·have:bn P (eqGuard .eql t xo yo (.bool a) (.bool b))=some ():=rfl
  rw[bt,this,Option.bind_some]
  show bn P (do pure (Value.bool (←Op.equal t (.bool a) (.bool b))))=_
  rw[bt,he];rfl
 ·have:bn P (eqGuard .neq t xo yo (.bool a) (.bool b))=some ():=rfl
  rw[bt,this,Option.bind_some]
  show bn P (do pure (Value.bool (!(←Op.equal t (.bool a) (.bool b)))))=_
  rw[bt,he];rfl
@[simp] theorem LJ{P:Program}{t:TypeId}(h:isBool P t=true)(xo yo:Operand)(a b:Bool):qBin P .eql t xo yo (some (aB a)) (some (aB b))=some (aB (a == b),[]):=by
 simp only[qBin,isSl,mg,fI,Hb h .eql (.inl rfl),Bool.false_and,Bool.or_self,Bool.false_eq_true,if_false,Option.bind_some,gV,scalar,if_true,qVal,Option.map_some]
@[simp] theorem XM(P:Program)(d:Bool)(g:Get)(r:Ref)(ts:Array TypeId)(k:IntKind)(a b:Int):aA P d g r .min ts [.v (.int k a),.v (.int k b)]=some (.v (.int k (if b<a then b else a)),[]):=id rfl
@[simp] theorem XN(P:Program)(d:Bool)(g:Get)(r:Ref)(ts:Array TypeId)(k:IntKind)(a b:Int):aA P d g r .max ts [.v (.int k a),.v (.int k b)]=some (.v (.int k (if b>a then b else a)),[]):=id rfl
theorem Own.cons{z:Nat}{es:List AV}{H:Heap}{x:AV}(h:Own z es H x)(hF:Fr H)(d t:Nat)(b:Option Blk):Own z es ((⟨d,t,H.gen d t,0⟩,b) :: H) x:=by
 rcases h with ⟨rfl,rfl⟩ | ⟨r,rfl,hr⟩
 ·exact Jn z _
 ·refine .inr ⟨r,rfl,?_⟩
  rw[Heap.nT,if_neg (mK hF (by rw[hr];rfl) d t 0)]
  exact hr
theorem Own.FU{P:Program}{t z:Nat}(h:(eJ P t).bind (aP P)=some z){H:Heap}{es:List AV}{x:AV}(hx:Own z es H x){n:Nat}(hn:n≤es.length) :
 ∃y y',fc P H.get t (some x) (some none) (some (some (n:Int))) (some none)=some (y,[])∧Ab.view H.get depth y=some y'∧Sl z (es.take n) y':=by
 rcases hx with ⟨rfl,rfl⟩ | ⟨r,rfl,hr⟩
 ·refine⟨aNil,aNil,?_,rfl,.inl ⟨rfl,by simp⟩⟩
  rw[BB (by rw[h];rfl)]
  have:n=0:=by simpa using hn
  subst this;rfl
 ·refine⟨.osl r 0 n none,.isl z (es.take n) none,?_,?_,Sl.mk z _⟩
  ·simp only[fc,hr,h,if_true,bounds,Option.getD_none,Option.getD_some,Int.le_refl,true_and]
   rw[if_pos ⟨by omega,by omega⟩]
   simp
  ·rw[bj,BU hr,if_pos ⟨rfl,by simpa using hn⟩,List.drop_zero]
end Go.Ab
namespace Go.Ab
@[simp] theorem Sb(P:Program)(r:Ref)(e:TypeId){z:AV}(hz:fC P e=some z)(h0:0<(aP P e).getD 0):bq P r e=if some z.cells.length=aP P e∧z.cells.all AV.one=true then some (.ptr r 0 0,[⟨(aP P e).getD 0,[z],false,false⟩]) else none:=by
 unfold bq
 rw[hz]
 cases h:aP P e with
 | none=>simp
 | some n=>rw[h]at h0;simp only[Option.getD_some]at h0;simp[h0]
@[simp] theorem KD{P:Program}{t f:Nat}(h:0<((ax P t f).getD (0,0)).2)(r:Ref)(i j:Nat):aa P t (some (.ptr r i j)) f=some (.ptr r i (j+((ax P t f).getD (0,0)).1),[]):=by
 unfold aa
 cases hf:ax P t f with
 | none=>rw[hf]at h;simp at h
 | some p=>obtain⟨o,s⟩:=p;rw[hf]at h;simp only[Option.getD_some]at h ⊢;rw[if_pos h]
@[simp] theorem Jd{P:Program}{t f:Nat}(h:0<((ax P t f).getD (0,0)).2)(n:Nat)(es:List AV)(i j:Nat):aa P t (some (.iptr n es i j)) f=some (.iptr n es i (j+((ax P t f).getD (0,0)).1),[]):=by
 unfold aa
 cases hf:ax P t f with
 | none=>rw[hf]at h;simp at h
 | some p=>obtain⟨o,s⟩:=p;rw[hf]at h;simp only[Option.getD_some]at h ⊢;rw[if_pos h]
def LN(cs:List AV)(off n:Nat)(ag:Bool):Option AV:=if ag then (if off+n≤cs.length then some (.agg ((cs.drop off).take n)) else none) else cs[off]?
@[simp] theorem Wy(cs:List AV)(off n:Nat):LN cs off n true=if off+n≤cs.length then some (.agg ((cs.drop off).take n)) else none:=id rfl
@[simp] theorem Wz(cs:List AV)(off n:Nat):LN cs off n false=cs[off]?:=id rfl
@[simp] theorem Qc{P:Program}{t f:Nat}(h:(((m8 P t f).bind fun p=>aP P p.2).isSome&&((m8 P t f).bind fun p=>tagg P p.2).isSome)=true)(cs:List AV) :
 nO P t (some (.agg cs)) f=qVal (LN cs ((m8 P t f).getD (0,0)).1 ((aP P ((m8 P t f).getD (0,0)).2).getD 0) ((tagg P ((m8 P t f).getD (0,0)).2).getD false)):=by
 unfold nO
 cases hf:m8 P t f with
 | none=>rw[hf]at h;simp at h
 | some p =>
  obtain⟨o,ft⟩:=p
  rw[hf]at h
  simp only[Option.bind_some,Bool.and_eq_true]at h
  obtain⟨n,hn⟩:=Option.isSome_iff_exists.1 h.1
  obtain⟨b,hb⟩:=Option.isSome_iff_exists.1 h.2
  simp only[Option.getD_some,xm,hn,hb]
  cases b<;>rfl
@[simp] theorem KH(cs:List AV)(new:List AV)(h:new.length=cs.length):gT [AV.agg cs] 0 0 new=some [AV.agg new]:=by
 simp[gT,m5,patch,h]
@[simp low] theorem MD(cs:List AV)(j:Nat)(new:List AV)(h:j+new.length≤cs.length):gT [AV.agg cs] 0 j new=some [AV.agg (patch cs j new)]:=by
 simp[gT,m5,h]
@[simp] theorem UG(cs:List AV)(j:Nat)(new:List AV):patch cs j new=cs.take j++new++cs.drop (j+new.length):=id rfl
@[simp] theorem M5{P:Program}{t:TypeId}(ha:(tagg P t).isSome=true)(hn:(aP P t).isSome=true)(H:Heap)(r:Ref)(i j:Nat):ba P H (.ptr r i j) t=OW (H.get r) i j ((aP P t).getD 0) ((tagg P t).getD false):=by
 obtain⟨a,ha⟩:=Option.isSome_iff_exists.1 ha
 obtain⟨n,hn⟩:=Option.isSome_iff_exists.1 hn
 simp only[ba,ha,hn,Option.getD_some]
 rfl
@[simp] theorem LD{P:Program}{t:TypeId}{z:List AV}(hz:fC P t=some (.agg z))(ht:tarr P t=none)(hp:(e9 P t).isSome=true)(vs:List (Nat × AV)) :
 bI P t (some vs)=(lz (fun i=>((e9 P t).getD [])[i]?) z vs).map fun cs=>(.agg cs,[]):=by
 obtain⟨ps,hp⟩:=Option.isSome_iff_exists.1 hp
 simp only[bI,hz,ht,hp,Option.getD_some]
@[simp] theorem M6(vs:List AV)(i:Nat):aq (some (.tup vs)) i=qVal vs[i]?:=id rfl
@[simp] theorem UB(r:Ref)(i j:Nat):qNil (some (.ptr r i j))=some (.ptr r i j,[]):=id rfl
@[simp] theorem Heap.O6(d t:Nat):Heap.gen [] d t=0:=id rfl
@[simp] theorem Heap.Gw(d t g k:Nat)(b:Option Blk)(H:Heap)(d' t':Nat):Heap.gen ((⟨d,t,g,k⟩,b) :: H) d' t'=if d=d'∧t=t' then g+1 else Heap.gen H d' t':=id rfl
end Go.Ab
namespace Go.Ab
@[simp] theorem EU{α β:Type}(f:α→Option β)(a:α)(l:List α):List.mapM f (a :: l)=(f a).bind fun b=>(List.mapM f l).map (b :: ·):=by
 rw[List.mapM_cons];cases f a<;>cases List.mapM f l<;>rfl
@[simp] theorem P7{α:Type}(f:α→AV)(l:List α)(i j n:Nat)(ag:Bool):fD (l.map f) i j n ag=(l[i]?).bind fun a=>fD [f a] 0 j n ag:=by
 unfold fD
 rw[List.getElem?_map]
 cases l[i]?<;>rfl
theorem drop_cons{α:Type}{l:List α}{k:Nat}{a:α}{s:List α}(h:l.drop k=a :: s) : ∃hk:k<l.length,l[k]=a∧l.drop (k+1)=s∧l[k]?=some a:=by
 have hk:k<l.length:=by
  have:=congrArg List.length h
  simp at this;omega
 rw[List.drop_eq_getElem_cons hk]at h
 cases h
 exact⟨hk,rfl,rfl,List.getElem?_eq_getElem hk⟩
theorem drop_nil{α:Type}{l:List α}{k:Nat}(h:l.drop k=[])(hk:k≤l.length):k=l.length:=by
 have:=congrArg List.length h
 simp at this;omega
theorem lu{b:Bool}{q:QRes}{K:AV→Prop}{m:Mk (q,K)}(h1:b=true→doQ q K)(h2:b=false→K AV.undef):gQ (aB b) true q K m:=by
 cases b
 ·exact(WZ q K m).2 (h2 rfl)
 ·exact(WX q K m).2 (h1 rfl)
theorem lx{b:Bool}{q:QRes}{K:AV→Prop}{m:Mk (q,K)}(h1:b=true→K AV.undef)(h2:b=false→doQ q K):gQ (aB b) false q K m:=by
 cases b
 ·exact(W0 q K m).2 (h2 rfl)
 ·exact(WY q K m).2 (h1 rfl)
theorem lg{b:Bool}{H:Heap}{q:WRes}{K:AV→Heap→Prop}{m:Mk (q,K)}(h1:b=true→doW q K)(h2:b=false→K AV.undef H):gW (aB b) true H q K m:=by
 cases b
 ·exact(WV H q K m).2 (h2 rfl)
 ·exact(WT H q K m).2 (h1 rfl)
theorem lj{b:Bool}{H:Heap}{q:WRes}{K:AV→Heap→Prop}{m:Mk (q,K)}(h1:b=true→K AV.undef H)(h2:b=false→doW q K):gW (aB b) false H q K m:=by
 cases b
 ·exact(WW H q K m).2 (h2 rfl)
 ·exact(WU H q K m).2 (h1 rfl)
theorem af{H:Heap}(hF:Fr H){q:Ref}(h:(H.get q).isSome=true)(d t k:Nat):((⟨d,t,H.gen d t,k⟩:Ref)=q)=False :=
 eq_false (mK hF h d t k)
theorem ah{H:Heap}(hF:Fr H){q:Ref}(h:(H.get q).isSome=true)(d t k:Nat):(q=(⟨d,t,H.gen d t,k⟩:Ref))=False :=
 eq_false fun e=>mK hF h d t k e.symm
theorem ar{H:Heap}(hF:Fr H)(d t k:Nat):H.get ⟨d,t,H.gen d t,k⟩=none:=hF _ _ _ _ (Nat.le_refl _)
theorem au{H:Heap}(hF:Fr H){d t g:Nat}(hg:g=H.gen d t)(b:Option Blk):Fr ((⟨d,t,g,0⟩,b) :: H):=by subst hg;exact hF.cons d t b
theorem az{H:Heap}(hF:Fr H){r:Ref}(hr:(H.get r).isSome=true)(b:Option Blk):Fr (H.put r b):=hF.put b hr
theorem ab{H:Heap}{r:Ref}(hr:(H.get r).isSome=true)(b:Option Blk)(d t:Nat):(H.put r b).gen d t=H.gen d t:=Heap.kn H r b hr d t
theorem JY{E:Env}{f:FuncId}(hm:xw (E.mode f)=false)(x:AV)(H:Heap)(y:AV):rF E f x H y↔view H.get depth x=some y:=by
 unfold rF
 rw[if_neg (by simpa using hm)]
theorem E8{E:Env}{f:FuncId}(hm:xw (E.mode f)=true)(x:AV)(H:Heap)(y:AV):rF E f x H y↔(ay H.get depth x).Nodup∧du H.get depth x=some y:=by
 unfold rF
 rw[if_pos (by simpa using hm)]
def Al(wk:Bool)(H:Heap)(r:Ref)(refs:List Ref)(o:Option AV):WRes:=match o with
 | some y=>if flat depth y||iE H.get refs then some ((aE r depth y []).1,keyed r 0 (aE r depth y []).2 H)
  else if wk then some ((aE r depth y []).1,keyed r 0 (aE r depth y []).2 (bR H refs)) else none
 | none=>none
noncomputable def PU(E:Env)(wk:Bool)(H:Heap)(r:Ref)(refs:List Ref)(f:FuncId)(o:Option (List AV)):WRes:=match o with
 | some xs=>Al wk H r refs (limf E f xs)
 | none=>none
theorem aL{E:Env}(wk:Bool)(dep:Nat)(H:Heap)(r:Ref)(f:FuncId)(hm:(E.mode f == 2)=false)(hm3:(E.mode f == 3)=false)(first captured args:List AV) :
 aG E wk (limf E) (limt E dep) H r (some (.fn (.func f) first captured)) args=PU E wk H r (bL H.get (first++args++captured)) f ((first++args++captured).mapM (view H.get depth)):=by
 have hm':E.mode f≠2:=by simpa using hm
 simp only[aG,jF,mI,if_neg hm',hm3,Bool.false_and,Bool.or_false]
 cases(first++args++captured).mapM (view H.get depth) with
 | none=>cases wk<;>rfl
 | some xs =>
  dsimp only[PU]
  cases limf E f xs with
  | none=>cases wk<;>rfl
  | some y =>
   dsimp only[Al,Option.map_some]
   cases hc:(flat depth y||iE H.get (bL H.get (first++args++captured))) with
   | true=>rfl
   | false=>cases wk<;>rfl
theorem E6(r:Ref)(n:Nat)(t:TypeId)(x:AV)(bs:List Blk):aE r (n+1) (.ifc t x) bs=(.ifc t (aE r n x bs).1,(aE r n x bs).2):=id rfl
@[simp] theorem QO(E:Env)(wk:Bool)(H:Heap)(r:Ref)(refs:List Ref)(f:FuncId)(xs:List AV):PU E wk H r refs f (some xs)=Al wk H r refs (limf E f xs):=id rfl
@[simp] theorem QP(wk:Bool)(H:Heap)(r:Ref)(refs:List Ref)(y:AV)(h:flat depth y=true):Al wk H r refs (some y)=some (y,H):=by
 simp only[Al,h,Bool.true_or,if_true]
 rw[qm r depth depth y [] h]
 rfl
theorem aF(wk:Bool)(H:Heap)(r:Ref)(y:AV):Al wk H r [] (some y)=some ((aE r depth y []).1,keyed r 0 (aE r depth y []).2 H):=by
 simp only[Al,iE,List.all_nil,Bool.or_true,if_true]
theorem bg(wk:Bool)(H:Heap)(r:Ref)(refs:List Ref)(y:AV)(h:iE H.get refs=true):Al wk H r refs (some y)=some ((aE r depth y []).1,keyed r 0 (aE r depth y []).2 H):=by
 simp only[Al,h,Bool.or_true,if_true]
@[simp] theorem XT(n:Nat)(x:Value):flat (n+1) (.v x)=true:=id rfl
@[simp] theorem XU(n:Nat)(x:UInt8):flat (n+1) (a8 x)=true:=id rfl
@[simp] theorem W1(n:Nat)(x:UInt32):flat (n+1) (a32 x)=true:=id rfl
@[simp] theorem U7(n:Nat)(cs:List AV):flat (n+1) (.agg cs)=cs.all (flat n):=id rfl
@[simp] theorem SP(n:Nat)(cs:List AV):flat (n+1) (.tup cs)=cs.all (flat n):=id rfl
@[simp] theorem U5(n:Nat)(t:TypeId)(x:AV):flat (n+1) (.ifc t x)=flat n x:=id rfl
@[simp] theorem U4(n z:Nat)(es:List AV)(c:Option Nat):flat (n+1) (.isl z es c)=false:=id rfl
@[simp] theorem U6(n z:Nat)(es:List AV)(c:Option Nat):flat (n+1) (.fsl z es c)=false:=id rfl
@[simp] theorem OE(g:Get):bL g []=[]:=id rfl
@[simp] theorem MZ(g:Get)(x:AV)(xs:List AV):bL g (x :: xs)=ay g depth x++bL g xs:=id rfl
@[simp] theorem PZ(g:Get)(n:Nat)(x:Value):ay g n (.v x)=[]:=by cases n<;>rfl
@[simp] theorem P0(g:Get)(n:Nat)(x:UInt8):ay g n (a8 x)=[]:=by cases n<;>rfl
@[simp] theorem NY(g:Get)(n:Nat)(x:UInt32):ay g n (a32 x)=[]:=by cases n<;>rfl
@[simp] theorem MI(g:Get)(n z:Nat)(es:List AV)(c:Option Nat):ay g n (.isl z es c)=[]:=by cases n<;>rfl
@[simp] theorem KN(g:Get)(n z:Nat)(es:List AV)(i j:Nat):ay g n (.iptr z es i j)=[]:=by cases n<;>rfl
@[simp] theorem MJ(g:Get)(n:Nat)(cs:List AV):ay g (n+1) (.agg cs)=cs.flatMap (ay g n):=id rfl
@[simp] theorem MF(g:Get)(n:Nat)(cs:List AV):ay g (n+1) (.tup cs)=cs.flatMap (ay g n):=id rfl
@[simp] theorem MH(g:Get)(n:Nat)(r:Ref)(o l:Nat)(c:Option Nat):ay g (n+1) (.osl r o l c)=[r]:=id rfl
@[simp] theorem NX(g:Get)(n:Nat)(f:Fn)(a b:List AV):ay g (n+1) (.fn f a b)=a.flatMap (ay g n)++b.flatMap (ay g n):=id rfl
def Jg(g:Get)(n:Nat)(o:Option Blk):List Ref:=match o with
 | some b=>if b.arr then [] else b.es.flatMap (ay g n)
 | none=>[]
@[simp] theorem MG(g:Get)(n:Nat)(r:Ref)(i j:Nat):ay g (n+1) (.ptr r i j)=r :: Jg g n (g r):=id rfl
@[simp] theorem Na(g:Get)(n:Nat)(b:Blk):Jg g n (some b)=if b.arr then [] else b.es.flatMap (ay g n):=id rfl
def Q2(o l:Nat)(c:Option Nat)(b:Option Blk):Option AV:=match b with
 | some b=>if b.arr=true∧o+l≤b.es.length then some (.isl b.esz ((b.es.drop o).take l) c) else none
 | none=>none
@[simp] theorem QZ(g:Get)(n:Nat)(r:Ref)(o l:Nat)(c:Option Nat):view g (n+1) (.osl r o l c)=Q2 o l c (g r):=id rfl
@[simp] theorem P2(o l:Nat)(c:Option Nat)(b:Blk):Q2 o l c (some b)=if b.arr=true∧o+l≤b.es.length then some (.isl b.esz ((b.es.drop o).take l) c) else none:=id rfl
def Q1(g:Get)(n i j:Nat)(b:Option Blk):Option AV:=match b with
 | some b=>if b.arr then some (.iptr b.esz b.es i j) else (b.es.mapM (view g n)).map fun es => .iptr b.esz es i j
 | none=>none
@[simp] theorem QY(g:Get)(n:Nat)(r:Ref)(i j:Nat):view g (n+1) (.ptr r i j)=Q1 g n i j (g r):=id rfl
@[simp] theorem P1(g:Get)(n i j:Nat)(b:Blk):Q1 g n i j (some b)=if b.arr then some (.iptr b.esz b.es i j) else (b.es.mapM (view g n)).map fun es => .iptr b.esz es i j:=id rfl
@[simp] theorem Vw(g:Get)(n:Nat)(f:Fn)(a b:List AV):view g (n+1) (.fn f a b)=(a.mapM (view g n)).bind fun a=>(b.mapM (view g n)).map fun b => .fn f a b:=by
 rw[view]
 cases a.mapM (view g n)<;>cases b.mapM (view g n)<;>rfl
@[simp] theorem U0(r:Ref)(n:Nat)(x:Value)(bs:List Blk):aE r n (.v x) bs=(.v x,bs):=by cases n<;>rfl
@[simp] theorem U1(r:Ref)(n:Nat)(x:UInt8)(bs:List Blk):aE r n (a8 x) bs=(a8 x,bs):=by cases n<;>rfl
@[simp] theorem SK(r:Ref)(n:Nat)(x:UInt32)(bs:List Blk):aE r n (a32 x) bs=(a32 x,bs):=by cases n<;>rfl
@[simp] theorem Qy(r:Ref)(n z:Nat)(es:List AV)(c:Option Nat)(bs:List Blk):aE r n (.isl z es c) bs=(.isl z es c,bs):=by cases n<;>rfl
@[simp] theorem Qz(r:Ref)(n z:Nat)(es:List AV)(c:Option Nat)(bs:List Blk)(hz:z≠0):aE r (n+1) (.fsl z es c) bs=(.osl { r with k:=bs.length} 0 es.length c,bs++[⟨z,es,true,false⟩]):=by
 simp only[aE,if_neg hz]
def qn(r:Ref)(n:Nat):List AV→List AV→List Blk→List AV × List Blk
 | [],acc,bs=>(acc,bs)
 | c :: cs,acc,bs=>qn r n cs (acc++[(aE r n c bs).1]) (aE r n c bs).2
theorem BG(r:Ref)(n:Nat)(cs:List AV) : ∀(acc:List AV)(bs:List Blk),cs.foldl (fun(p:List AV × List Blk) c=>let (y,bs):=aE r n c p.2;(p.1++[y],bs)) (acc,bs)=qn r n cs acc bs:=by
 induction cs with
 | nil=>intro acc bs;rfl
 | cons c cs ih=>intro acc bs;rw[List.foldl_cons];exact ih _ _
@[simp] theorem QA(r:Ref)(n:Nat)(cs:List AV)(bs:List Blk):aE r (n+1) (.agg cs) bs=(.agg (qn r n cs [] bs).1,(qn r n cs [] bs).2):=by
 rw[←BG];rfl
@[simp] theorem Qx(r:Ref)(n:Nat)(cs:List AV)(bs:List Blk):aE r (n+1) (.tup cs) bs=(.tup (qn r n cs [] bs).1,(qn r n cs [] bs).2):=by
 rw[←BG];rfl
@[simp] theorem O2(r:Ref)(n:Nat)(acc:List AV)(bs:List Blk):qn r n [] acc bs=(acc,bs):=id rfl
@[simp] theorem No(r:Ref)(n:Nat)(c:AV)(cs acc:List AV)(bs:List Blk):qn r n (c :: cs) acc bs=qn r n cs (acc++[(aE r n c bs).1]) (aE r n c bs).2:=id rfl
@[simp] theorem Md(H:Heap):bR H []=H:=id rfl
def J1(H:Heap)(r:Ref)(b:Option Blk):Heap:=match b with
 | some b=>H.put r (some { b with frz:=true})
 | none=>H
@[simp] theorem KE(H:Heap)(r:Ref)(rs:List Ref):bR H (r :: rs)=bR (J1 H r (H.get r)) rs:=by
 show(match H.get r with | some b=>bR (H.put r (some { b with frz:=true})) rs | none=>bR H rs)=_
 cases H.get r<;>rfl
@[simp] theorem Nq(H:Heap)(r:Ref)(b:Blk):J1 H r (some b)=H.put r (some { b with frz:=true}):=id rfl
def Kc(l:Nat)(c:Option Nat)(b:Option Blk):Option AV:=match b with
 | some b=>if b.arr=true∧l≤b.es.length then some (if b.frz then .isl b.esz (b.es.take l) c else .fsl b.esz (b.es.take l) c) else none
 | none=>none
@[simp] theorem QG(g:Get)(n:Nat)(r:Ref)(l:Nat)(c:Option Nat):du g (n+1) (.osl r 0 l c)=Kc l c (g r):=id rfl
@[simp] theorem NN(l:Nat)(c:Option Nat)(b:Blk):Kc l c (some b)=if b.arr=true∧l≤b.es.length then some (if b.frz then .isl b.esz (b.es.take l) c else .fsl b.esz (b.es.take l) c) else none:=id rfl
@[simp] theorem U8(g:Get)(n:Nat)(x:Value):du g (n+1) (.v x)=some (.v x):=id rfl
@[simp] theorem QH(g:Get)(n:Nat)(cs:List AV):du g (n+1) (.agg cs)=(cs.mapM (du g n)).map .agg:=id rfl
@[simp] theorem QF(g:Get)(n:Nat)(cs:List AV):du g (n+1) (.tup cs)=(cs.mapM (du g n)).map .tup:=id rfl
theorem Sl.idx{z:Nat}{es:List AV}{x:AV}(h:Sl z es x){P:Program}{t:TypeId}(ht:(eJ P t).bind (aP P)=some z)(g:Get)(kd:IntKind)(k:Int) :
 aH P g t (some x) (some (.v (.int kd k)))=if 0≤k∧k<es.length then some (.iptr z es k.toNat 0,[]) else none:=by
 rcases h with ⟨rfl,rfl⟩ | ⟨c,rfl,_⟩
 ·obtain⟨e,he,hz⟩:=GA ht
  rw[if_neg (by simp)]
  simp[aH,vg,he]
 ·exact AM ht g es c kd k
theorem Sl.exp{z:Nat}{es:List AV}{x:AV}(h:Sl z es x)(g:Get)(n:Nat):du g (n+1) x=some x:=by
 rcases h with ⟨rfl,rfl⟩ | ⟨c,rfl,_⟩<;>rfl
theorem Sl.imp'{z:Nat}{es:List AV}{x:AV}(h:Sl z es x)(r:Ref)(n:Nat)(bs:List Blk):aE r n x bs=(x,bs):=by
 rcases h with ⟨rfl,rfl⟩ | ⟨c,rfl,_⟩<;>cases n<;>rfl
theorem Sl.r{z:Nat}{es:List AV}{x:AV}(h:Sl z es x):vf x=some es.length∧(∀g n,Ab.view g (n+1) x=some x)∧(∀g n,ay g n x=[])∧x.cells=[x]∧x.one=true∧(∀g n,du g (n+1) x=some x)∧(∀r n bs,aE r n x bs=(x,bs)) :=
 ⟨h.len,h.view,h.refs,h.cells.1,h.cells.2,h.exp,h.imp'⟩
@[simp] theorem X2:aNil.at?=none:=id rfl
@[simp] theorem X1(r:Ref)(o n:Nat)(c:Option Nat):(AV.osl r o n c).at?=some r:=id rfl
theorem Mz{P:Program}{t t' z by':Nat}(hT:elT P t z by'=true)(hA:apT P t'=true)(wk:Bool)(H:Heap)(r:Ref){new:List AV}{x:AV}(hx:Els H.get z new x)(hn:new≠[])(hb:new.length * by'≤cJ) :
 cO P wk H r (some t) (some t') aNil x=some (.osl r 0 new.length none,({ r with k:=0},some ⟨z,new,true,false⟩) :: H):=by
 obtain⟨e,zz,h1,h2,h3,h4,h5,h6,h7,h8⟩:=iB hT
 have hnew:=hx.oo hT h1
 unfold apT at hA
 simp only[Bool.and_eq_true,Bool.not_eq_true']at hA
 have hun:(P.underlying t').isNone=false:=by cases h:P.underlying t' with | none=>rw[h]at hA;simp at hA | some d=>rfl
 have hc : ¬((P.underlying t').isNone=true∨isInt P t'≠isNum x):=by
  rw[hun,hA.2,hx.num];simp
 have hd : ¬(z≠z∨z=0∨by'=0∨zz.cells.length≠z):=by simp[h5,h7,h8]
 simp only[cO,gw,Option.bind_some,h1,Option.map_some,Option.getD_some,if_neg hc,h2,h3,h4,hnew,if_neg hd,if_neg hn,if_pos hb]
 rfl
theorem My{P:Program}{t t' z by':Nat}(hT:elT P t z by'=true)(hA:apT P t'=true)(H:Heap)(r q:Ref)(n:Nat){new es:List AV}{x:AV}(hx:Els H.get z new x){fz:Bool}(hq:H.get q=some ⟨z,es,true,fz⟩)(hn:n=es.length)(hne:new≠[])(hb:(es.length+new.length) * by'≤cJ) :
 cO P true H r (some t) (some t') (.osl q 0 n none) x=some (.osl ⟨q.d,q.t,H.gen q.d q.t,0⟩ 0 (es.length+new.length) none,(⟨q.d,q.t,H.gen q.d q.t,0⟩,some ⟨z,es++new,true,fz⟩) :: H.put q none):=by
 subst hn
 obtain⟨e,zz,h1,h2,h3,h4,h5,h6,h7,h8⟩:=iB hT
 have hnew:=hx.oo hT h1
 unfold apT at hA
 simp only[Bool.and_eq_true,Bool.not_eq_true']at hA
 have hun:(P.underlying t').isNone=false:=by cases h:P.underlying t' with | none=>rw[h]at hA;simp at hA | some d=>rfl
 have hc : ¬((P.underlying t').isNone=true∨isInt P t'≠isNum x):=by
  rw[hun,hA.2,hx.num];simp
 have hd : ¬(z≠z∨z=0∨by'=0∨zz.cells.length≠z):=by simp[h5,h7,h8]
 have hd' : ¬(z≠z∨z=0∨by'=0∨new=[]∨zz.cells.length≠z):=by simp[h5,h7,h8,hne]
 have hqa:gw P H.get r (some t) (some t') (.osl q 0 es.length none) x=none:=by
  simp only[gw,Option.bind_some,h1,Option.map_some,Option.getD_some,if_neg hc,h2,h3,h4,hnew,if_neg hd,hq,if_neg hne]
  simp
 simp only[cO,hqa,DD,Gd]
 simp only[jW,Option.bind_some,h1,Option.map_some,Option.getD_some,if_neg hc,h2,h3,h4,hnew,if_neg hd',hq,hb,and_self,if_true,true_and]
def elZ(P:Program)(t:TypeId):Nat:=((eJ P t).bind (aP P)).getD 0
def elBy(P:Program)(t:TypeId):Nat:=((eJ P t).bind (oY P)).getD 0
def iT(P:Program)(t:TypeId):AV:=((eJ P t).bind (fC P)).getD AV.undef
def elOk(P:Program)(t:TypeId):Bool:=elT P t (elZ P t) (elBy P t)
def elsO(z:Nat)(o:Option (Nat × List AV)):Option (List AV):=match o with
 | some (z',es)=>if z'=z then some es else none
 | none=>none
def pk(z:Nat)(g:Get)(x:AV):Option (List AV):=match x with
 | .v (.slice none 0 0)=>some []
 | .v (.int _ _)=>none
 | x=>elsO z (cM g x)
@[simp] theorem SW(z:Nat)(g:Get):pk z g aNil=some []:=id rfl
@[simp] theorem SX(z:Nat)(g:Get)(z':Nat)(es:List AV)(c:Option Nat):pk z g (.isl z' es c)=if z'=z then some es else none:=id rfl
def elsB(z o n:Nat)(b:Option Blk):Option (List AV):=match b with
 | some b=>if (b.arr=true∧o+n≤b.es.length)∧b.esz=z then some ((b.es.drop o).take n) else none
 | none=>none
@[simp] theorem SY(z o n:Nat)(b:Blk):elsB z o n (some b)=if (b.arr=true∧o+n≤b.es.length)∧b.esz=z then some ((b.es.drop o).take n) else none:=id rfl
@[simp] theorem SV(z:Nat)(g:Get)(r:Ref)(o n:Nat)(c:Option Nat):pk z g (.osl r o n c)=elsB z o n (g r):=by
 unfold pk elsB
 simp only[cM]
 cases g r with
 | none=>rfl
 | some b =>
  dsimp only
  by_cases h:b.arr=true∧o+n≤b.es.length
  ·by_cases h2:b.esz=z
   ·rw[if_pos h,if_pos ⟨h,h2⟩];simp[elsO,h2]
   ·rw[if_pos h,if_neg (fun e=>h2 e.2)];simp[elsO,h2]
  ·rw[if_neg h,if_neg (fun e=>h e.1)];rfl
theorem Sl.pk{z:Nat}{es:List AV}{x:AV}(h:Sl z es x)(g:Get):Ab.pk z g x=some es:=by
 rcases h with ⟨rfl,rfl⟩ | ⟨c,rfl,_⟩<;>simp
theorem rH{z:Nat}{g:Get}{x:AV}{new:List AV}(h:pk z g x=some new):Els g z new x:=by
 unfold pk at h
 split at h
 ·cases h;exact .inl ⟨rfl,rfl⟩
 ·cases h
 ·rename_i h1 h2
  unfold elsO at h
  split at h
  ·rename_i z' es he
   split at h
   ·rename_i hz
    cases h;subst hz
    refine .inr ⟨?_,fun e=>?_,he⟩
    ·cases x with
     | v u=>cases u with
      | int k n=>exact(h2 _ _ rfl).elim
      | _=>rfl
     | _=>rfl
    ·exact h1 e
   ·cases h
  ·cases h
def appN(z by':Nat)(H:Heap)(r:Ref)(new:Option (List AV)):WRes:=match new with
 | some new=>if new=[] then some (aNil,H) else if new.length * by'≤cJ then some (.osl r 0 new.length none,({ r with k:=0},some ⟨z,new,true,false⟩) :: H) else none
 | none=>none
@[simp] theorem Ku(z by':Nat)(H:Heap)(r:Ref)(new:List AV):appN z by' H r (some new)=if new=[] then some (aNil,H) else if new.length * by'≤cJ then some (.osl r 0 new.length none,({ r with k:=0},some ⟨z,new,true,false⟩) :: H) else none:=id rfl
@[simp] theorem QS{P:Program}{t t':TypeId}(hT:elOk P t=true)(hA:apT P t'=true)(wk:Bool)(H:Heap)(r:Ref)(x:AV)(hx:(pk (elZ P t) H.get x).isSome=true) :
 cO P wk H r (some t) (some t') aNil x=appN (elZ P t) (elBy P t) H r (pk (elZ P t) H.get x):=by
 obtain⟨new,hn⟩:=Option.isSome_iff_exists.1 hx
 rw[hn,Ku]
 have hx:=rH hn
 unfold elOk at hT
 by_cases hne:new=[]
 ·rw[if_pos hne]
  subst hne
  obtain⟨e,zz,h1,h2,h3,h4,h5,h6,h7,h8⟩:=iB hT
  have hnew:=hx.oo hT h1
  unfold apT at hA
  simp only[Bool.and_eq_true,Bool.not_eq_true']at hA
  have hun:(P.underlying t').isNone=false:=by cases h:P.underlying t' with | none=>rw[h]at hA;simp at hA | some d=>rfl
  have hc : ¬((P.underlying t').isNone=true∨isInt P t'≠isNum x):=by rw[hun,hA.2,hx.num];simp
  have hd : ¬(elZ P t≠elZ P t∨elZ P t=0∨elBy P t=0∨zz.cells.length≠elZ P t):=by simp[h5,h7,h8]
  simp only[cO,gw,Option.bind_some,h1,Option.map_some,Option.getD_some,if_neg hc,h2,h3,h4,hnew,if_neg hd,if_true]
  rfl
 ·rw[if_neg hne]
  split
  ·rename_i hb;exact Mz hT hA wk H r hx hne hb
  ·rename_i hb
   obtain⟨e,zz,h1,h2,h3,h4,h5,h6,h7,h8⟩:=iB hT
   have hnew:=hx.oo hT h1
   unfold apT at hA
   simp only[Bool.and_eq_true,Bool.not_eq_true']at hA
   have hun:(P.underlying t').isNone=false:=by cases h:P.underlying t' with | none=>rw[h]at hA;simp at hA | some d=>rfl
   have hc : ¬((P.underlying t').isNone=true∨isInt P t'≠isNum x):=by rw[hun,hA.2,hx.num];simp
   have hd : ¬(elZ P t≠elZ P t∨elZ P t=0∨elBy P t=0∨zz.cells.length≠elZ P t):=by simp[h5,h7,h8]
   have hd' : ¬(elZ P t≠elZ P t∨elZ P t=0∨elBy P t=0∨new=[]∨zz.cells.length≠elZ P t):=by simp[h5,h7,h8,hne]
   have hqa:gw P H.get r (some t) (some t') aNil x=none:=by
    simp only[gw,Option.bind_some,h1,Option.map_some,Option.getD_some,if_neg hc,h2,h3,h4,hnew,if_neg hd,if_neg hne,if_neg hb]
   simp only[cO,hqa,DD]
   cases wk
   ·rfl
   ·simp only[Gd,jW,Option.bind_some,h1,Option.map_some,Option.getD_some,if_neg hc,h2,h3,h4,hnew,if_neg hd']
def bsG(draw:Bool)(z:Nat)(zz:AV)(H:Heap)(r:Ref)(n:Nat)(ps:List (Nat × AV)):WRes:=match fq (List.replicate n zz) ps with
 | some es=>if draw then some (.isl z es (some n),H) else some (.osl r 0 n (some n),({ r with k:=0},some ⟨z,es,true,false⟩) :: H)
 | none=>none
@[simp] theorem Xt{P:Program}{t:TypeId}(hT:elOk P t=true)(draw wk:Bool)(H:Heap)(r:Ref)(n:Nat)(ps:List (Nat × AV))(hsz:n * elZ P t≤16777216)(hv:dz H.get ps=some ps)(hrf:bL H.get (ps.map (·.2))=[])
 (hc:ps.all (fun p=>p.2.cells.length == elZ P t&&p.2.cells.all AV.one)=true) (hf:(fq (List.replicate n (iT P t)) ps).isSome=true) :
 gm P draw wk H r t n (some ps)=bsG draw (elZ P t) (iT P t) H r n ps:=by
 obtain⟨es,hf⟩:=Option.isSome_iff_exists.1 hf
 unfold elOk at hT
 obtain⟨e,zz,h1,h2,h3,h4,h5,h6,h7,h8⟩:=iB hT
 have hz:(eJ P t).bind (fC P)=some zz:=by rw[h1];exact h4
 have hz':iT P t=zz:=by unfold iT;rw[hz];rfl
 rw[hz']at hf ⊢
 rw[Mt hT hsz hv hrf hc hz hf]
 unfold bsG
 rw[hf]
@[simp] theorem Mh(es:List AV):fq es []=some es:=id rfl
@[simp] theorem KF(es:List AV)(i:Nat)(v:AV)(ps:List (Nat × AV)):fq es ((i,v) :: ps)=if i<es.length then fq (es.set i v) ps else none:=id rfl
@[simp] theorem Vn(draw:Bool)(z:Nat)(zz:AV)(H:Heap)(r:Ref)(n:Nat)(ps:List (Nat × AV)):bsG draw z zz H r n ps=(fq (List.replicate n zz) ps).bind fun es=>if draw then some (.isl z es (some n),H) else some (.osl r 0 n (some n),({ r with k:=0},some ⟨z,es,true,false⟩) :: H):=by
 unfold bsG;cases fq (List.replicate n zz) ps<;>rfl
@[simp] theorem KO(g:Get):dz g []=some []:=id rfl
@[simp] theorem KC(g:Get)(i:Nat)(x:AV)(ps:List (Nat × AV)):dz g ((i,x) :: ps)=(view g depth x).bind fun y=>(dz g ps).map ((i,y) :: ·):=by
 unfold dz
 rw[EU]
 dsimp only
 cases view g depth x<;>rfl
def idxB(z o n:Nat)(k:Int)(r:Ref)(b:Option Blk):QRes:=match b with
 | some b=>if 0≤k∧k<n∧z=b.esz then some (.ptr r (o+k.toNat) 0,[]) else none
 | none=>none
@[simp] theorem SL(z o n:Nat)(k:Int)(r:Ref)(b:Blk):idxB z o n k r (some b)=if 0≤k∧k<n∧z=b.esz then some (.ptr r (o+k.toNat) 0,[]) else none:=id rfl
@[simp] theorem Jb{P:Program}{t:TypeId}(h:elOk P t=true)(g:Get)(r:Ref)(o n:Nat)(c:Option Nat)(kd:IntKind)(k:Int) :
 aH P g t (some (.osl r o n c)) (some (.v (.int kd k)))=idxB (elZ P t) o n k r (g r):=by
 unfold elOk at h
 obtain⟨e,zz,h1,h2,h3,h4,h5,h6,h7,h8⟩:=iB h
 simp only[aH,Option.bind_some,vg,h1,h2]
 cases g r<;>rfl
def Iq(H:Heap)(r:Ref)(o:Option Blk)(n i j:Nat)(x:AV):WRes:=match o with
 | some ⟨z,es,true,false⟩=>if x.cells.length=n∧x.cells.all AV.one=true then (gT es i j x.cells).map fun es=>(AV.undef,H.put r (some ⟨z,es,true,false⟩)) else none
 | some ⟨z,es,false,false⟩=>if x.cells.length=n∧x.cells.all AV.one=true then (gT es i j x.cells).map fun es=>(AV.undef,H.put r (some ⟨z,es,false,false⟩)) else none
 | _=>none
@[simp] theorem Bw(H:Heap)(r:Ref)(z:Nat)(es:List AV)(n i j:Nat)(x:AV):Iq H r (some ⟨z,es,true,false⟩) n i j x=if x.cells.length=n∧x.cells.all AV.one=true then (gT es i j x.cells).map fun es=>(AV.undef,H.put r (some ⟨z,es,true,false⟩)) else none:=id rfl
@[simp] theorem P3(H:Heap)(r:Ref)(z:Nat)(es:List AV)(n i j:Nat)(x:AV):Iq H r (some ⟨z,es,false,false⟩) n i j x=if x.cells.length=n∧x.cells.all AV.one=true then (gT es i j x.cells).map fun es=>(AV.undef,H.put r (some ⟨z,es,false,false⟩)) else none:=id rfl
def Iu(H:Heap)(o:Option Blk)(x:AV):Prop:=match o with
 | some ⟨_,_,false,false⟩=>True
 | some ⟨_,_,true,false⟩=>view H.get depth x=some x∧ay H.get depth x=[]
 | _=>False
@[simp] theorem P4(H:Heap)(z:Nat)(es:List AV)(x:AV):Iu H (some ⟨z,es,false,false⟩) x=True:=id rfl
@[simp] theorem P5(H:Heap)(z:Nat)(es:List AV)(x:AV):Iu H (some ⟨z,es,true,false⟩) x=(view H.get depth x=some x∧ay H.get depth x=[]):=id rfl
theorem KK{P:Program}{t:TypeId}(hn:(aP P t).isSome=true)(H:Heap)(r:Ref)(i j:Nat)(x:AV)(hf:Iu H (H.get r) x) :
 aC P H t (some (.ptr r i j)) (some x)=Iq H r (H.get r) ((aP P t).getD 0) i j x:=by
 obtain⟨n,hn⟩:=Option.isSome_iff_exists.1 hn
 simp only[aC,hn,Option.getD_some]
 cases hr:H.get r with
 | none=>rw[hr]at hf;exact hf.elim
 | some b =>
  rw[hr]at hf
  obtain⟨z,es,arr,frz⟩:=b
  cases frz with
  | true=>cases arr<;>exact hf.elim
  | false =>
   cases arr with
   | false=>simp only[and_true,Bool.false_eq_true,if_false];rfl
   | true =>
    obtain⟨h1,h2⟩:=hf
    simp only[and_true,if_true,h1,h2,List.not_mem_nil,if_false,bR]
    by_cases hc:x.cells.length=n∧x.cells.all AV.one=true
    ·rw[if_pos hc,Bw,if_pos hc,if_pos hc.2]
    ·rw[if_neg hc,Bw,if_neg hc]
theorem Ec{α:Type}(f:α→AV)(l:List α)(i j:Nat)(new:List AV):gT (l.map f) i j new=(l[i]?).bind fun a=>(m5 (f a) j new).map fun e'=>(l.map f).set i e':=by
 unfold gT
 rw[List.getElem?_map]
 cases l[i]?<;>rfl
@[simp] theorem KG(cs:List AV)(j:Nat)(new:List AV):m5 (.agg cs) j new=if j+new.length≤cs.length then some (.agg (patch cs j new)) else none:=id rfl
end Go.Ab
namespace Go.Ab
@[simp] theorem Qb(f:Fn)(a b:List AV):gI f (some a) (some b)=some (.fn f a b,[]):=id rfl
attribute [simp] KK
@[simp] theorem QE(place:Nat→Option (Nat × Nat))(cells:List AV):lz place cells []=some cells:=id rfl
def SQ(place:Nat→Option (Nat × Nat))(cells:List AV)(v:AV)(rest:List (Nat × AV))(p:Option (Nat × Nat)):Option (List AV):=match p with
 | none=>none
 | some (off,size)=>if v.cells.length=size∧off+size≤cells.length then lz place (patch cells off v.cells) rest else none
@[simp] theorem PG(place:Nat→Option (Nat × Nat))(cells:List AV)(i:Nat)(v:AV)(rest:List (Nat × AV)):lz place cells ((i,v) :: rest)=SQ place cells v rest (place i):=id rfl
@[simp] theorem QD(place:Nat→Option (Nat × Nat))(cells:List AV)(v:AV)(rest:List (Nat × AV))(off size:Nat):SQ place cells v rest (some (off,size))=if v.cells.length=size∧off+size≤cells.length then lz place (patch cells off v.cells) rest else none:=id rfl
@[simp] theorem UF(r':Ref)(b':Option Blk)(H:Heap)(r:Ref)(b:Option Blk):Heap.put ((r',b') :: H) r b=if r'=r then (r,b) :: H else (r',b') :: Heap.put H r b:=id rfl
@[simp] theorem MN{α β:Type}(f:α→β)(l:List α):List.take l.length (l.map f)=l.map f:=List.take_of_length_le (by simp)
def OutS(z:Nat)(es:List AV)(y:AV):Prop:=(y=aNil∧es=[])∨y = .fsl z es none∨(y = .fsl z [] (some 0)∧es=[])
theorem OK(z:Nat):OutS z [] aNil := .inl ⟨rfl,rfl⟩
@[simp] theorem Vt(z:Nat)(es:List AV):OutS z es aNil↔es=[]:=by
 constructor
 ·rintro(⟨_,e⟩ | e | ⟨e,_⟩)
  ·exact e
  ·cases e
  ·cases e
 ·rintro rfl;exact OK z
@[simp] theorem Vu(z:Nat)(es es':List AV):OutS z es (.fsl z es' none)↔es=es':=by
 constructor
 ·rintro(⟨e,_⟩ | e | ⟨e,_⟩)
  ·cases e
  ·cases e;rfl
  ·cases e
 ·rintro rfl;exact .inr (.inl rfl)
@[simp] theorem Ti(z:Nat)(es:List AV):OutS z es (.fsl z [] (some 0))↔es=[]:=by
 constructor
 ·rintro(⟨e,_⟩ | e | ⟨_,e⟩)
  ·cases e
  ·cases e
  ·exact e
 ·rintro rfl;exact .inr (.inr ⟨rfl,rfl⟩)
theorem FG{P:Program}{t t':TypeId}(hT:elOk P t=true)(hA:apT P t'=true)(wk:Bool)(H:Heap)(r q:Ref)(n k:Nat)(x:AV){es new:List AV}{fz:Bool}(hq:H.get q=some ⟨elZ P t,es,true,fz⟩)(hx:pk (elZ P t) H.get x=some new)(hn:n=es.length)(hk:new=[]∨((es.length+new.length) * elBy P t≤cJ∧k<es.length+new.length)) :
 cO P wk H r (some t) (some t') (.osl q 0 n (some k)) x=if new=[] then some (.osl q 0 n (some k),H) else some (.osl r 0 (es.length+new.length) none,({ r with k:=0},some ⟨elZ P t,es++new,true,false⟩) :: H):=by
 subst hn
 have hx:=rH hx
 unfold elOk at hT
 obtain⟨e,zz,h1,h2,h3,h4,h5,h6,h7,h8⟩:=iB hT
 have hnew:=hx.oo hT h1
 unfold apT at hA
 simp only[Bool.and_eq_true,Bool.not_eq_true']at hA
 have hun:(P.underlying t').isNone=false:=by cases h:P.underlying t' with | none=>rw[h]at hA;simp at hA | some d=>rfl
 have hc : ¬((P.underlying t').isNone=true∨isInt P t'≠isNum x):=by rw[hun,hA.2,hx.num];simp
 have hd : ¬(elZ P t≠elZ P t∨elZ P t=0∨elBy P t=0∨zz.cells.length≠elZ P t):=by simp[h5,h7,h8]
 by_cases hne:new=[]
 ·subst hne
  simp only[cO,gw,Option.bind_some,h1,Option.map_some,Option.getD_some,if_neg hc,h2,h3,h4,hnew,if_neg hd,hq,if_true]
  simp
 ·obtain⟨hb,hk⟩:=hk.resolve_left hne
  simp only[cO,gw,Option.bind_some,h1,Option.map_some,Option.getD_some,if_neg hc,h2,h3,h4,hnew,if_neg hd,hq,if_neg hne]
  simp only[ne_eq,not_true_eq_false,Bool.true_eq_false,or_self,if_false,Nat.zero_add,Nat.le_refl,hk,hb,and_self,if_true,List.drop_zero,List.take_length]
  rfl
def oF(z by' n:Nat)(wk:Bool)(c:Option Nat)(b:Option Blk)(new:Option (List AV)):Prop:=match b,new with
 | some ⟨z',es,true,_⟩,some new=>z'=z∧n=es.length∧(new=[]∨((es.length+new.length) * by'≤cJ∧match c with | none=>wk=true | some k=>k<es.length+new.length))
 | _,_=>False
theorem aT(z by' n:Nat)(wk:Bool)(z':Nat)(es new:List AV)(fz:Bool):oF z by' n wk none (some ⟨z',es,true,fz⟩) (some new)=(z'=z∧n=es.length∧(new=[]∨((es.length+new.length) * by'≤cJ∧wk=true))):=id rfl
theorem bc(z by' n:Nat)(wk:Bool)(k z':Nat)(es new:List AV)(fz:Bool):oF z by' n wk (some k) (some ⟨z',es,true,fz⟩) (some new)=(z'=z∧n=es.length∧(new=[]∨((es.length+new.length) * by'≤cJ∧k<es.length+new.length))):=id rfl
def appG(z:Nat)(H:Heap)(q r:Ref)(n:Nat)(c:Option Nat)(b:Option Blk)(new:Option (List AV)):WRes:=match b,new with
 | some b,some []=>some (.osl q 0 n c,H)
 | some b,some new=>match c with
  | none=>some (.osl ⟨q.d,q.t,H.gen q.d q.t,0⟩ 0 (b.es.length+new.length) none,(⟨q.d,q.t,H.gen q.d q.t,0⟩,some ⟨z,b.es++new,true,b.frz⟩) :: H.put q none)
  | some _=>some (.osl r 0 (b.es.length+new.length) none,({ r with k:=0},some ⟨z,b.es++new,true,false⟩) :: H)
 | _,_=>none
@[simp] theorem MA(z:Nat)(H:Heap)(q r:Ref)(n:Nat)(c:Option Nat)(b:Blk):appG z H q r n c (some b) (some [])=some (.osl q 0 n c,H):=id rfl
theorem da(z:Nat)(H:Heap)(q r:Ref)(n:Nat)(b:Blk)(new:List AV)(hn:new≠[]):appG z H q r n none (some b) (some new)=some (.osl ⟨q.d,q.t,H.gen q.d q.t,0⟩ 0 (b.es.length+new.length) none,(⟨q.d,q.t,H.gen q.d q.t,0⟩,some ⟨z,b.es++new,true,b.frz⟩) :: H.put q none):=by
 cases new with
 | nil=>exact(hn rfl).elim
 | cons _ _=>rfl
theorem cZ(z:Nat)(H:Heap)(q r:Ref)(n k:Nat)(b:Blk)(new:List AV)(hn:new≠[]):appG z H q r n (some k) (some b) (some new)=some (.osl r 0 (b.es.length+new.length) none,({ r with k:=0},some ⟨z,b.es++new,true,false⟩) :: H):=by
 cases new with
 | nil=>exact(hn rfl).elim
 | cons _ _=>rfl
theorem bx{P:Program}{t t':TypeId}(hT:elOk P t=true)(hA:apT P t'=true)(wk:Bool)(H:Heap)(r q:Ref)(n:Nat)(c:Option Nat)(x:AV)(hf:oF (elZ P t) (elBy P t) n wk c (H.get q) (pk (elZ P t) H.get x)) :
 cO P wk H r (some t) (some t') (.osl q 0 n c) x=appG (elZ P t) H q r n c (H.get q) (pk (elZ P t) H.get x):=by
 cases hq:H.get q with
 | none=>rw[hq]at hf;exact hf.elim
 | some b =>
  obtain⟨z',es,arr,fz⟩:=b
  cases hx:pk (elZ P t) H.get x with
  | none=>rw[hq,hx]at hf;cases arr<;>exact hf.elim
  | some new =>
   rw[hq,hx]at hf
   cases arr with
   | false=>exact hf.elim
   | true =>
    obtain⟨rfl,rfl,hf⟩:=hf
    cases c with
    | none =>
     by_cases hn:new=[]
     ·subst hn
      rw[MA]
      have hx':=rH hx
      unfold elOk at hT
      obtain⟨e,zz,h1,h2,h3,h4,h5,h6,h7,h8⟩:=iB hT
      have hnew:=hx'.oo hT h1
      unfold apT at hA
      simp only[Bool.and_eq_true,Bool.not_eq_true']at hA
      have hun:(P.underlying t').isNone=false:=by cases h:P.underlying t' with | none=>rw[h]at hA;simp at hA | some d=>rfl
      have hc : ¬((P.underlying t').isNone=true∨isInt P t'≠isNum x):=by rw[hun,hA.2,hx'.num];simp
      have hd : ¬(elZ P t≠elZ P t∨elZ P t=0∨elBy P t=0∨zz.cells.length≠elZ P t):=by simp[h5,h7,h8]
      simp only[cO,gw,Option.bind_some,h1,Option.map_some,Option.getD_some,if_neg hc,h2,h3,h4,hnew,if_neg hd,hq,if_true]
      simp
     ·obtain⟨hb,rfl⟩:=hf.resolve_left hn
      rw[da _ _ _ _ _ _ _ hn]
      exact My (by exact hT) hA H r q _ (rH hx) hq rfl hn hb
    | some k =>
     rw[FG hT hA wk H r q _ k x hq hx rfl hf]
     split
     ·rename_i hn;subst hn;rfl
     ·rename_i hn;rw[cZ _ _ _ _ _ _ _ _ hn]
theorem Sl.OS{z:Nat}{es:List AV}{x:AV}(h:Sl z es x):x=aNil∧es=[] ∨∃c,x = .isl z es c:=by
 rcases h with h | ⟨c,h,_⟩
 ·exact .inl h
 ·exact .inr ⟨c,h⟩
@[simp] theorem M8(P:Program)(t:TypeId)(xo yo:Operand)(h:(eJ P t).isSome=true)(z:Nat)(es:List AV)(c:Option Nat):qBin P .eql t xo yo (some (.isl z es c)) (some aNil)=some (aB false,[]):=by
 unfold eJ at h
 split at h
 ·rename_i e he
  simp[qBin,isSl,mg,he]
 ·cases h
def frzO(b:Option Blk):Bool:=match b with | some b=>b.frz | none=>false
@[simp] theorem SO(b:Blk):frzO (some b)=b.frz:=id rfl
@[simp] theorem QT(g:Get):iE g []=true:=id rfl
@[simp] theorem PW(g:Get)(r:Ref)(rs:List Ref):iE g (r :: rs)=(frzO (g r)&&iE g rs):=id rfl
theorem bf(H:Heap)(r:Ref)(refs:List Ref)(y:AV)(h1:flat depth y=false)(h2:iE H.get refs=false):Al true H r refs (some y)=some ((aE r depth y []).1,keyed r 0 (aE r depth y []).2 (bR H refs)):=by
 simp only[Al,h1,h2,Bool.or_self,Bool.false_eq_true,if_false,if_true]
def nZ:AV→AV
 | .isl z [] _ => .fsl z [] (some 0)
 | .isl z es _ => .fsl z es none
 | x=>x
@[simp] theorem Mq(x:Value):nZ (.v x) = .v x:=id rfl
@[simp] theorem HK(z:Nat)(c:Option Nat):nZ (.isl z [] c) = .fsl z [] (some 0):=id rfl
theorem nw(z:Nat){es:List AV}(c:Option Nat)(h:es≠[]):nZ (.isl z es c) = .fsl z es none:=by
 cases es with
 | nil=>exact(h rfl).elim
 | cons _ _=>rfl
theorem pq{z:Nat}{es:List AV}{x:AV}(h:Sl z es x):OutS z es (nZ x):=by
 rcases h with ⟨rfl,rfl⟩ | ⟨c,rfl,_⟩
 ·simp
 ·by_cases he:es=[]
  ·subst he;simp
  ·rw[nw z c he];simp
def jQ(z:Nat)(es:List AV)(H:Heap)(x y:AV):Prop:=(x=y∧Sl z es y) ∨∃r c fz,x = .osl r 0 es.length c∧H.get r=some ⟨z,es,true,fz⟩∧y = .isl z es c∧es.length≤c.getD es.length
theorem jQ.sl{z:Nat}{es:List AV}{H:Heap}{x y:AV}(h:jQ z es H x y):Sl z es y:=by
 rcases h with ⟨_,h⟩ | ⟨r,c,fz,_,_,rfl,h⟩
 ·exact h
 ·exact .inr ⟨c,rfl,h⟩
theorem jQ.view{z:Nat}{es:List AV}{H:Heap}{x y:AV}(h:jQ z es H x y)(n:Nat):Ab.view H.get (n+1) x=some y:=by
 rcases h with ⟨rfl,h⟩ | ⟨r,c,fz,rfl,hr,rfl,_⟩
 ·exact h.view _ _
 ·rw[C7 hr rfl]
theorem jQ.len{z:Nat}{es:List AV}{H:Heap}{x y:AV}(h:jQ z es H x y):vf x=some es.length:=by
 rcases h with ⟨rfl,h⟩ | ⟨r,c,fz,rfl,hr,rfl,_⟩
 ·exact h.len
 ·rfl
theorem jQ.cells{z:Nat}{es:List AV}{H:Heap}{x y:AV}(h:jQ z es H x y):x.cells=[x]∧x.one=true:=by
 rcases h with ⟨rfl,h⟩ | ⟨r,c,fz,rfl,hr,rfl,_⟩
 ·exact h.cells
 ·exact⟨rfl,rfl⟩
theorem jQ.put{z:Nat}{es:List AV}{H:Heap}{x y:AV}(h:jQ z es H x y){q:Ref}(hq:x.at?≠some q)(b:Option Blk):jQ z es (H.put q b) x y:=by
 rcases h with h | ⟨r,c,fz,rfl,hr,rfl,hc⟩
 ·exact .inl h
 ·refine .inr ⟨r,c,fz,rfl,?_,rfl,hc⟩
  rw[Heap.an,if_neg (by rintro rfl;exact hq rfl),hr]
theorem jQ.cons{z:Nat}{es:List AV}{H:Heap}{x y:AV}(h:jQ z es H x y)(hF:Fr H)(d t:Nat)(b:Option Blk):jQ z es ((⟨d,t,H.gen d t,0⟩,b) :: H) x y:=by
 rcases h with h | ⟨r,c,fz,rfl,hr,rfl,hc⟩
 ·exact .inl h
 ·refine .inr ⟨r,c,fz,rfl,?_,rfl,hc⟩
  rw[Heap.nT,if_neg (mK hF (by rw[hr];rfl) d t 0),hr]
theorem jQ.r{z:Nat}{es:List AV}{H:Heap}{x y:AV}(h:jQ z es H x y):vf x=some es.length∧(∀n,Ab.view H.get (n+1) x=some y)∧x.cells=[x]∧x.one=true:=⟨h.len,h.view,h.cells⟩
theorem jQ.of{z:Nat}{es:List AV}{x:AV}(h:Sl z es x)(H:Heap):jQ z es H x x := .inl ⟨rfl,h⟩
def Mine(z:Nat)(es:List AV)(H:Heap)(x:AV)(r:Ref):Prop:=(x=aNil∧es=[]) ∨∃c,x = .osl r 0 es.length c∧H.get r=some ⟨z,es,true,false⟩
theorem Mine.len{z:Nat}{es:List AV}{H:Heap}{x:AV}{r:Ref}(h:Mine z es H x r):vf x=some es.length:=by
 rcases h with ⟨rfl,rfl⟩ | ⟨c,rfl,_⟩<;>rfl
theorem Mine.cells{z:Nat}{es:List AV}{H:Heap}{x:AV}{r:Ref}(h:Mine z es H x r):x.cells=[x]∧x.one=true:=by
 rcases h with ⟨rfl,rfl⟩ | ⟨c,rfl,_⟩<;>exact⟨rfl,rfl⟩
theorem Mine.osl{z:Nat}{es:List AV}{H:Heap}{x:AV}{r:Ref}(h:Mine z es H x r){k:Nat}(hk:k<es.length) : ∃c,x = .osl r 0 es.length c∧H.get r=some ⟨z,es,true,false⟩:=by
 rcases h with ⟨rfl,rfl⟩ | h
 ·simp at hk
 ·exact h
def FI(ts:List Nat)(z:Nat)(es:List AV)(H:Heap)(x:AV):Prop:=(x=aNil∧es=[]) ∨∃t g,t∈ts∧x = .osl ⟨0,t,g,0⟩ 0 es.length none∧H.get ⟨0,t,g,0⟩=some ⟨z,es,true,false⟩
theorem jQ.live{z:Nat}{es:List AV}{H:Heap}{x y:AV}(h:jQ z es H x y){r:Ref}(hr:x.at?=some r):(H.get r).isSome=true:=by
 rcases h with ⟨rfl,h⟩ | ⟨r',c,fz,rfl,hr',rfl,_⟩
 ·rcases h with ⟨rfl,_⟩ | ⟨c,rfl,_⟩<;>cases hr
 ·cases hr;rw[hr'];rfl
theorem jQ.mono{z:Nat}{es:List AV}{H H':Heap}{x y:AV}(h:jQ z es H x y)(hk : ∀r,x.at?=some r→H'.get r=H.get r):jQ z es H' x y:=by
 rcases h with h | ⟨r',c,fz,rfl,hr',rfl,hc⟩
 ·exact .inl h
 ·exact .inr ⟨r',c,fz,rfl,by rw[hk r' rfl,hr'],rfl,hc⟩
theorem ad{H:Heap}(hF:Fr H){q:Ref}(h:(H.get q).isSome=true)(d t k:Nat):((⟨d,t,H.gen d t+1,k⟩:Ref)=q)=False :=
 eq_false fun e=>by subst e;rw[hF _ _ _ _ (Nat.le_succ _)]at h;cases h
theorem ae{H:Heap}(hF:Fr H){q:Ref}(h:(H.get q).isSome=true)(d t k:Nat):(q=(⟨d,t,H.gen d t+1,k⟩:Ref))=False :=
 eq_false fun e=>by subst e;rw[hF _ _ _ _ (Nat.le_succ _)]at h;cases h
theorem ao{H:Heap}(hF:Fr H)(d t k:Nat):H.get ⟨d,t,H.gen d t+1,k⟩=none:=hF _ _ _ _ (Nat.le_succ _)
theorem ak{H:Heap}(hF:Fr H){d t g:Nat}(k:Nat)(hg:g=H.gen d t∨g+1=H.gen d t)(b:Option Blk):Fr ((⟨d,t,g,k⟩,b) :: H):=by
 intro d' t' g' k' h
 rw[Heap.Gw]at h
 rw[Heap.nT]
 by_cases he:d=d'∧t=t'
 ·obtain⟨rfl,rfl⟩:=he
  rw[if_pos ⟨rfl,rfl⟩]at h
  rw[if_neg (by intro e;injection e;omega)]
  exact hF _ _ _ _ (by omega)
 ·rw[if_neg he]at h
  rw[if_neg (by intro e;injection e with e1 e2;exact he ⟨e1,e2⟩)]
  exact hF _ _ _ _ h
end Go.Ab
namespace Go.Ab
def JS(by':Nat)(es:List AV)(k:Nat)(new:Option (List AV)):Prop:=match new with
 | some new=>new=[]∨(k<es.length+new.length∧(es.length+new.length) * by'≤cJ)
 | none=>False
theorem aD(by':Nat)(es:List AV)(k:Nat)(new:List AV):JS by' es k (some new)=(new=[]∨(k<es.length+new.length∧(es.length+new.length) * by'≤cJ)):=id rfl
def islG(z:Nat)(H:Heap)(r:Ref)(es:List AV)(k:Nat)(new:Option (List AV)):WRes:=match new with
 | some []=>some (.isl z es (some k),H)
 | some new=>some (.osl r 0 (es.length+new.length) none,({ r with k:=0},some ⟨z,es++new,true,false⟩) :: H)
 | none=>none
@[simp] theorem L6(z:Nat)(H:Heap)(r:Ref)(es:List AV)(k:Nat):islG z H r es k (some [])=some (.isl z es (some k),H):=id rfl
theorem bM(z:Nat)(H:Heap)(r:Ref)(es:List AV)(k:Nat)(new:List AV)(hn:new≠[]):islG z H r es k (some new)=some (.osl r 0 (es.length+new.length) none,({ r with k:=0},some ⟨z,es++new,true,false⟩) :: H):=by
 cases new with
 | nil=>exact(hn rfl).elim
 | cons _ _=>rfl
theorem bD{P:Program}{t t':TypeId}(hT:elOk P t=true)(hA:apT P t'=true)(wk:Bool)(H:Heap)(r:Ref)(z k:Nat)(es:List AV)(x:AV)(hz:z=elZ P t)(hf:JS (elBy P t) es k (pk (elZ P t) H.get x)) :
 cO P wk H r (some t) (some t') (.isl z es (some k)) x=islG z H r es k (pk (elZ P t) H.get x):=by
 subst hz
 cases hx:pk (elZ P t) H.get x with
 | none=>rw[hx]at hf;exact hf.elim
 | some new =>
  rw[hx]at hf
  have hx':=rH hx
  unfold elOk at hT
  obtain⟨e,zz,h1,h2,h3,h4,h5,h6,h7,h8⟩:=iB hT
  have hnew:=hx'.oo hT h1
  unfold apT at hA
  simp only[Bool.and_eq_true,Bool.not_eq_true']at hA
  have hun:(P.underlying t').isNone=false:=by cases h:P.underlying t' with | none=>rw[h]at hA;simp at hA | some d=>rfl
  have hc : ¬((P.underlying t').isNone=true∨isInt P t'≠isNum x):=by rw[hun,hA.2,hx'.num];simp
  have hd : ¬(elZ P t≠elZ P t∨elZ P t=0∨elBy P t=0∨zz.cells.length≠elZ P t):=by simp[h5,h7,h8]
  by_cases hn:new=[]
  ·subst hn
   rw[L6]
   simp only[cO,gw,Option.bind_some,h1,Option.map_some,Option.getD_some,if_neg hc,h2,h3,h4,hnew,if_neg hd,if_neg (show ¬(elZ P t≠elZ P t) by simp),if_true]
   rfl
  ·obtain⟨hk,hb⟩:=hf.resolve_left hn
   rw[bM _ _ _ _ _ _ hn]
   simp only[cO,gw,Option.bind_some,h1,Option.map_some,Option.getD_some,if_neg hc,h2,h3,h4,hnew,if_neg hd,if_neg (show ¬(elZ P t≠elZ P t) by simp),if_neg hn,if_pos (show k<es.length+new.length∧(es.length+new.length) * elBy P t≤cJ from⟨hk,hb⟩)]
   rfl
end Go.Ab
namespace Go.Ab
@[simp] theorem SM(n:Nat)(h:n<9223372036854775808):IntKind.i64.wrap (no_index (OfNat.ofNat n):Int)=OfNat.ofNat n:=by
 show IntKind.i64.wrap (n:Int)=n
 exact IntWalk.i64_in _ (by omega)
@[simp] theorem Vp(len:Nat)(cap:Option Nat)(lo hi:Option Int):bounds len cap lo hi none=if 0≤lo.getD 0∧lo.getD 0≤hi.getD len∧hi.getD len≤len then some ((lo.getD 0).toNat,(hi.getD len).toNat,cap.map (· - (lo.getD 0).toNat)) else none:=id rfl
@[simp] theorem Uw(k:Nat):min k IntKind.i64.bits=min k 64:=id rfl
def RZ(o:Option AV)(j n:Nat)(ag:Bool):Option AV:=match o with
 | none=>none
 | some e=>if ag then (if j+n≤e.cells.length∧0<n then some (.agg ((e.cells.drop j).take n)) else none) else e.cells[j]?
@[simp] theorem P6(e:AV)(j n:Nat)(ag:Bool):RZ (some e) j n ag=if ag then (if j+n≤e.cells.length∧0<n then some (.agg ((e.cells.drop j).take n)) else none) else e.cells[j]?:=id rfl
@[simp] theorem R0(e1 e2:AV)(es:List AV)(i j n:Nat)(ag:Bool):fD (e1 :: e2 :: es) i j n ag=RZ (e1 :: e2 :: es)[i]? j n ag:=by
 unfold fD;cases(e1 :: e2 :: es)[i]?<;>rfl
@[simp] theorem Vs(l:List (AV × AV))(st bs:List AV)(H:Heap):jn l st bs H↔(l.all fun p=>kq p.1 p.2)=true∧st.all (tk H)=true∧bs.all bsV=true:=Iff.rfl
@[simp] theorem RW(r:Ref)(i j:Nat)(r':Ref)(i' j':Nat):kq (.ptr r i j) (.ptr r' i' j') = !decide (r=r'):=by
 unfold kq;simp[iH]
@[simp] theorem RX(r:Ref)(i j:Nat)(r':Ref)(o n:Nat)(c:Option Nat):kq (.ptr r i j) (.osl r' o n c) = !decide (r=r'):=by
 unfold kq;simp[iH]
@[simp] theorem RY(r:Ref)(i j:Nat)(r':Ref)(o n:Nat)(c:Option Nat):kq (.osl r' o n c) (.ptr r i j) = !decide (r'=r):=by
 unfold kq;simp[iH]
@[simp] theorem Lt(v:Value)(x:AV):kq (.v v) x=true:=id rfl
@[simp] theorem RV(v:Value)(x:AV):kq x (.v v)=true:=by
 unfold kq;cases iH x<;>rfl
def Ip(o:Option Blk):Bool:=match o with
 | some b => !b.arr
 | none=>false
@[simp] theorem Oe(b:Blk):Ip (some b) = !b.arr:=id rfl
@[simp] theorem Uv(H:Heap)(r:Ref)(i j:Nat):tk H (.ptr r i j)=Ip (H.get r):=by
 cases h:H.get r<;>simp[tk,Ip,h]
end Go.Ab
namespace Go.Ab
def be:Nat→Int→List UInt8
 | 0,_=>[]
 | k+1,n=>be k (n / 256)++[u8 n]
def valF(a:Int)(l:List UInt8):Int:=l.foldl (fun a b=>256 * a+(b.toNat:Int)) a
def val(l:List UInt8):Int:=valF 0 l
@[simp] theorem NR(k:Nat) : ∀n,(be k n).length=k:=by
 induction k with
 | zero=>intro n;rfl
 | succ k ih=>intro n;simp[be,ih]
@[simp] theorem Xv(n:Int):be 0 n=[]:=id rfl
theorem FB(k:Nat) : ∀n:Int,be (k+1) n=u8 (n / 256 ^ k) :: be k n:=by
 induction k with
 | zero=>intro n;simp[be]
 | succ k ih =>
  intro n
  rw[be,ih,be]
  rw[Int.ediv_ediv_of_nonneg (by omega),Int.pow_succ,Int.mul_comm (256 ^ k)]
  simp
@[simp] theorem QR(k:Nat)(n:Int):be k n=[]↔k=0:=by
 rw[←List.length_eq_zero_iff,NR]
theorem be_4(n:Int):be 4 n=[u8 (n / 16777216),u8 (n / 65536),u8 (n / 256),u8 n]:=by
 simp[FB]
theorem be_7(n:Int):be 7 n=[u8 (n / 281474976710656),u8 (n / 1099511627776),u8 (n / 4294967296),u8 (n / 16777216),u8 (n / 65536),u8 (n / 256),u8 n]:=by
 simp[FB]
theorem dM(n:Int)(k:Nat):n.fdiv (no_index (OfNat.ofNat k))=n / OfNat.ofNat k:=Int.fdiv_eq_ediv_of_nonneg _ (Int.natCast_nonneg k)
def outI(z:Nat):List AV→AV
 | []=>aNil
 | es => .isl z es none
theorem Jo(z:Nat){es:List AV}(h:es≠[]):outI z es = .isl z es none:=by
 cases es with
 | nil=>exact(h rfl).elim
 | cons _ _=>rfl
theorem Sl.islN{z:Nat}{es:List AV}{x:AV}(h:Sl z es x)(he:es≠[]) : ∃c,x = .isl z es c∧es.length≤c.getD es.length:=by
 rcases h with ⟨_,rfl⟩ | ⟨c,h,hc⟩
 ·exact(he rfl).elim
 ·exact⟨c,h,hc⟩
def oslB(z:Nat)(b:Option Blk)(q:QRes):QRes:=match b with
 | some b=>if z=b.esz then q else none
 | none=>none
@[simp] theorem Sk(z:Nat)(b:Blk)(q:QRes):oslB z (some b) q=if z=b.esz then q else none:=id rfl
@[simp] theorem P8{P:Program}{t:TypeId}(h:elOk P t=true)(g:Get)(r:Ref)(o n:Nat)(c:Option Nat)(lo hi mx:Option Int) :
 fc P g t (some (.osl r o n c)) (some lo) (some hi) (some mx)=oslB (elZ P t) (g r) ((bounds n c lo hi mx).map fun p=>(.osl r (o+p.1) (p.2.1 - p.1) p.2.2,[])):=by
 unfold elOk at h
 obtain⟨e,zz,h1,h2,h3,h4,h5,h6,h7,h8⟩:=iB h
 have hz:(eJ P t).bind (aP P)=some (elZ P t):=by rw[h1];exact h2
 unfold fc
 dsimp only
 rw[hz]
 cases g r with
 | none=>rfl
 | some b=>simp[oslB]
@[simp] theorem QQ(l:List UInt8):by8 l=[]↔l=[]:=by simp[by8]
end Go.Ab
