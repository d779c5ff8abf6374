/-
  Regions where stores, and what looks at memory at one place, come in any order. No statement of a seat is proved here.
  Regions where stores, and what looks at memory at one place, come in any order: the theorem. No statement of a seat is proved here.
  Regions where stores, and what looks at memory at one place, come in any order: the step and the end. No statement of a seat is proved here.
  From a run of the abstract machine on every data of the parameters' types to a law's contract. No statement of a seat is proved here.
-/
import Derived.Test.YtdbiffjdomokfaaGreatAbsDrawn
import Derived.Test.YtdbiffjdomokfaaGreatAbsWalk
import Derived.ReadAgain
import Derived.OpenShut
import Derived.ChangeSame
import Derived.RowKit
import Derived.JoinedOf
set_option linter.unusedVariables false
set_option linter.unusedSimpArgs false
namespace Go.Ab
structure Uo (E:Env) (ops:Array Oper):Prop extends RegB ops where
 made : ∀(i:Nat)(o:Oper),ops[i]?=some o→cls E o=3→o.dst.isSome=true
 stay : ∀(i:Nat)(o:Oper),ops[i]?=some o→cls E o≠0→cls E o≠3→mS E o=false →∃t,jY E o=some t ∧∀k,gl ops k=some t→k<i
 must : ∀(i j:Nat)(oi oj:Oper),ops[i]?=some oi→ops[j]?=some oj→j<i→m5 E oi oj=true→((dy ops.toList []).getD i 0).testBit j=true
 meet : ∀(i j:Nat)(oi oj:Oper),ops[i]?=some oi→ops[j]?=some oj→j<i→yG (cls E oi) (cls E oj)=true→mS E oi=false→mS E oj=false→((dy ops.toList []).getD i 0).testBit j=true∨settled E ops oi oj=true
theorem Aj(E:Env)(o:Oper):cls E o≤4:=by unfold cls;(repeat' split)<;>omega
theorem QK{E:Env}{ops:Array Oper}(h:Og E ops=true):Uo E ops:=by
 unfold Og at h
 rw[Bool.and_eq_true]at h
 replace h:=h.2
 simp only[List.all_eq_true,List.mem_range]at h
 have one : ∀(i:Nat)(o:Oper),ops[i]?=some o→(ep o).all (· < i)=true∧Ky E ops i o=true ∧∀(j:Nat)(oj:Oper),j<i→ops[j]?=some oj→Jv E ops (dy ops.toList []) o oj i j=true:=by
  intro i o ho
  have hi:i<ops.size:=(Array.getElem?_eq_some_iff.1 ho).1
  have:=h i hi
  rw[ho]at this
  simp only[Bool.and_eq_true,List.all_eq_true,List.mem_range]at this
  refine⟨by simpa using this.1.1,this.1.2,fun j oj hj hoj=>?_⟩
  have h2:=this.2 j hj
  rw[hoj]at h2
  exact h2
 have pair : ∀(i j:Nat)(oi oj:Oper),ops[i]?=some oi→ops[j]?=some oj→j<i→s7 ops (dy ops.toList []) oi oj i j=true ∧
  (!m5 E oi oj||((dy ops.toList []).getD i 0).testBit j)=true∧(!yG (cls E oi) (cls E oj)||mS E oi||mS E oj||((dy ops.toList []).getD i 0).testBit j||settled E ops oi oj)=true:=by
  intro i j oi oj hi hj hlt
  have:=(one i oi hi).2.2 j oj hlt hj
  unfold Jv at this
  rw[Bool.and_eq_true,Bool.and_eq_true]at this
  exact⟨this.1.1,this.1.2,this.2⟩
 refine⟨KX (fun i o ho=>(one i o ho).1) fun i j oi oj hi hj hlt=>(pair i j oi oj hi hj hlt).1,?_,?_,?_,?_⟩
 ·intro i o ho hc
  have:=(one i o ho).2.1
  unfold Ky at this
  rw[hc]at this
  exact this
 ·intro i o ho h0 h3 hrd
  have:=(one i o ho).2.1
  unfold Ky at this
  have hs:IW ops i (jY E o)=true:=by
   split at this
   ·exact absurd (by assumption) h0
   ·exact absurd (by assumption) h3
   ·rw[hrd,Bool.false_or]at this;exact this
  unfold IW at hs
  split at hs
  ·rename_i t ht
   refine⟨t,ht,fun k hk=>?_⟩
   simp only[List.all_eq_true,List.mem_range]at hs
   have hks:k<ops.size:=by
    unfold gl at hk
    cases hx:ops[k]? with
    | none=>rw[hx]at hk;cases hk
    | some x=>exact(Array.getElem?_eq_some_iff.1 hx).1
   have:=hs k hks
   rw[hk]at this
   simpa using this
  ·cases hs
 ·intro i j oi oj hi hj hlt hm
  have:=(pair i j oi oj hi hj hlt).2.1
  rw[hm]at this
  simpa using this
 ·intro i j oi oj hi hj hlt hm r1 r2
  have:=(pair i j oi oj hi hj hlt).2.2
  rw[hm,r1,r2]at this
  simpa using this
def Made(H H':ab)(q:Ref):Prop:=H.gen q.d q.t≤q.g∧q.g<H'.gen q.d q.t
structure tf (H H':ab):Prop where
 gen : ∀d t,H.gen d t≤H'.gen d t
 born : ∀q,H'.get q≠none→H.get q≠none∨Made H H' q
 arr : ∀q b b',H.get q=some b→q.g<H.gen q.d q.t→H'.get q=some b'→b'.arr=b.arr
theorem tf.refl(H:ab):tf H H:=⟨fun _ _=>Nat.le_refl _,fun _ h => .inl h,fun q b b' h _ h'=>by rw[h]at h';cases h';rfl⟩
theorem tf.keyed(H:ab)(d t:Nat)(bs:List bN):tf H (keyed ⟨d,t,H.gen d t,0⟩ 0 bs H):=by
 refine⟨fun d' t'=>?_,fun q h=>?_,fun q b b' h hg h'=>?_⟩
 ·rw[ab.ja];split
  ·rename_i hc;obtain⟨rfl,rfl,_⟩:=hc;exact Nat.le_succ _
  ·exact Nat.le_refl _
 ·rw[ab.ju]at h
  unfold oV at h
  split at h
  ·rename_i hc
   obtain⟨h1,h2,h3,h4⟩:=hc
   refine .inr ⟨?_,?_⟩
   ·rw[h1,h2,h3];exact Nat.le_refl _
   ·rw[ab.ja,if_pos ⟨h1,h2,by intro e;rw[e]at h4;simp at h4⟩,h3];exact Nat.lt_succ_self _
  ·exact .inl h
 ·rw[ab.ju]at h'
  unfold oV at h'
  split at h'
  ·rename_i hc
   obtain⟨h1,h2,h3,h4⟩:=hc
   rw[h1,h2,h3]at hg
   exact absurd hg (Nat.lt_irrefl _)
  ·rw[h]at h';cases h';rfl
theorem FM{g:dk}{R:List Ref}{q:Ref}{b b':bN}(h:g q=some b)(h':qS g R q=some b'):b'.arr=b.arr:=by
 unfold qS at h'
 split at h'
 ·rw[h]at h';simp at h';rw[←h']
 ·rw[h]at h';cases h';rfl
theorem CG{g:dk}{R:List Ref}{q:Ref}:qS g R q≠none→g q≠none:=by
 unfold qS
 split
 ·intro h e;rw[e]at h;exact h rfl
 ·exact id
theorem tf.put{H:ab}{R:List Ref}{r:Ref}{b:bN}{es:List AV}(hr:(cq H R).get r=some b):tf H ((cq H R).put r (some { b with es})):=by
 refine⟨fun d t=>?_,fun q h=>?_,fun q b1 b' h hg h'=>?_⟩
 ·rw[ab.kz _ _ _ (by rw[hr];rfl),ab.il];exact Nat.le_refl _
 ·rw[ab.get_put]at h
  split at h
  ·rename_i e;subst e;exact .inl (CG (R:=R) (by rw[←ab.eg,hr];simp))
  ·exact .inl (CG (R:=R) (by rw[←ab.eg];exact h))
 ·rw[ab.get_put]at h'
  split at h'
  ·rename_i e;subst e
   cases h'
   rw[ab.eg]at hr
   exact(FM h hr:b.arr=b1.arr)
  ·rw[ab.eg]at h'
   exact FM h h'
theorem Gh{P:Program}{H H':ab}{t:TypeId}{a x:Option AV}{y:AV}(h:aT P H t a x=some (y,H')):tf H H':=by
 unfold aT at h
 split at h
 ·split at h
  ·rename_i r' i j x' n _ b hb
   obtain⟨⟨hxn,hx1,hfr⟩,h⟩:=Option.ite_none_right_eq_some.1 h
   split at h
   ·split at h
    ·rename_i y' hy'
     split at h
     ·cases h
     ·rename_i hnr
      obtain⟨hy1,h⟩:=Option.ite_none_right_eq_some.1 h
      simp only[Option.map_eq_some_iff]at h
      obtain⟨es',hes,h⟩:=h
      cases h
      exact tf.put (by rw[ab.eg];unfold qS;rw[if_neg hnr];exact hb)
    ·cases h
   ·simp only[Option.map_eq_some_iff]at h
    obtain⟨es',hes,h⟩:=h
    cases h
    exact tf.put (R:=[]) hb
  ·cases h
 ·cases h
theorem wH{P:Program}{H H':ab}{t t':Option TypeId}{s x y:AV}(h:kn P H t t' s x=some (y,H')) :
 ∃r b z es f,gJ s=some r∧H.get r=some b∧b.arr=true∧H'=(⟨r.d,r.t,H.gen r.d r.t,0⟩,some ⟨z,es,true,f⟩) :: H.put r none:=by
 unfold kn at h
 split at h
 ·cases h
 ·split at h
  ·cases h
  ·split at h
   ·split at h
    ·cases h
    ·split at h
     ·split at h
      ·rename_i r' off len b hb
       obtain⟨⟨_,harr,_⟩,h⟩:=Option.ite_none_right_eq_some.1 h
       cases h
       exact⟨_,b,_,_,_,rfl,hb,harr,rfl⟩
      ·cases h
     ·cases h
   ·cases h
theorem Ga{H:ab}{r:Ref}{o:Option bN}(q:Ref):ab.get ((⟨r.d,r.t,H.gen r.d r.t,0⟩,o) :: H.put r none) q=if (⟨r.d,r.t,H.gen r.d r.t,0⟩:Ref)=q then o else if q=r then none else H.get q:=by
 simp only[ab.get,ab.get_put]
theorem Gb{H:ab}{r:Ref}{o:Option bN}(hr:(H.get r).isSome=true)(d t:Nat):ab.gen ((⟨r.d,r.t,H.gen r.d r.t,0⟩,o) :: H.put r none) d t=if r.d=d∧r.t=t then H.gen d t+1 else H.gen d t:=by
 simp only[ab.gen]
 rw[ab.kz _ _ _ hr]
 split
 ·rename_i h;rw[h.1,h.2]
 ·rfl
theorem E7{P:Program}{H H':ab}{t t':Option TypeId}{s x y:AV}(h:kn P H t t' s x=some (y,H')):tf H H' ∧∃r,gJ s=some r ∧∀q,H'.get q≠H.get q→Made H H' q∨q=r:=by
 obtain⟨r,b,z,es,f,hs,hb,harr,rfl⟩:=wH h
 have hr:(H.get r).isSome=true:=by rw[hb];rfl
 have hmade : ∀q,(⟨r.d,r.t,H.gen r.d r.t,0⟩:Ref)=q→Made H ((⟨r.d,r.t,H.gen r.d r.t,0⟩,some ⟨z,es,true,f⟩) :: H.put r none) q:=by
  intro q e
  subst e
  refine⟨Nat.le_refl _,?_⟩
  rw[Gb hr,if_pos ⟨rfl,rfl⟩]
  exact Nat.lt_succ_self _
 refine⟨⟨fun d t=>?_,fun q hq=>?_,fun q b1 b' h1 hg h'=>?_⟩,r,hs,fun q hq=>?_⟩
 ·rw[Gb hr];split<;>omega
 ·rw[Ga]at hq
  split at hq
  ·rename_i e;exact .inr (hmade q e)
  ·split at hq
   ·exact absurd rfl hq
   ·exact .inl hq
 ·rw[Ga]at h'
  split at h'
  ·rename_i e
   subst e
   exact absurd hg (Nat.lt_irrefl _)
  ·split at h'
   ·cases h'
   ·rw[h1]at h';cases h';rfl
 ·rw[Ga]at hq
  split at hq
  ·rename_i e;exact .inl (hmade q e)
  ·split at hq
   ·rename_i e;exact .inr e
   ·exact absurd rfl hq
def Seen(g g':dk)(v:AV):Prop :=∀q,gJ v=some q→g q≠none→g' q=g q
theorem wc{g g':dk}{v:AV}(h:Seen g g' v){q:Ref}(hv:gJ v=some q){b:bN}(hb:g q=some b):g' q=some b:=by rw[h q hv (by rw[hb];simp),hb]
theorem B5{P:Program}{g g':dk}{t:TypeId}{v x:AV}{bs:List bN}(h:aj P g t (some v)=some (x,bs))(hg:Seen g g' v):bs=[]∧aj P g' t (some v)=some (x,bs):=by
 unfold aj at h ⊢
 cases v<;>(try (simp at h;done))
 ·rename_i r i j
  cases h1:dD P t<;>cases h2:aU P t<;>rw[h1,h2]at h<;>(try (simp at h;done))
  simp only at h ⊢
  cases hb:g r with
  | none=>rw[hb]at h;simp at h
  | some b =>
   rw[hb]at h
   rw[wc hg rfl hb]
   exact⟨(nK h).2,h⟩
 ·cases h1:dD P t<;>cases h2:aU P t<;>rw[h1,h2]at h<;>(try (simp at h;done))
  exact⟨(nK h).2,h⟩
theorem uh{P:Program}{g g':dk}{t:TypeId}{v x:AV}{ix:Option AV}{bs:List bN}(h:aM P g t (some v) ix=some (x,bs))(hg:Seen g g' v):bs=[]∧aM P g' t (some v) ix=some (x,bs):=by
 unfold aM at h ⊢
 cases hk:ix.bind intOf with
 | none=>rw[hk]at h;simp at h
 | some k =>
 rw[hk]at h
 simp only at h ⊢
 cases he:dY P t with
 | some e =>
  rw[he]at h
  simp only at h ⊢
  cases hz:aU P e with
  | none=>rw[hz]at h;cases v<;>simp at h
  | some z =>
  rw[hz]at h
  cases v<;>(try (simp at h;done))
  ·simp only at h ⊢
   exact⟨by obtain⟨_,h⟩:=Option.ite_none_right_eq_some.1 h;cases h;rfl,h⟩
  ·rename_i r off len cap
   simp only at h ⊢
   cases hb:g r with
   | none=>rw[hb]at h;simp at h
   | some b =>
    rw[hb]at h
    rw[wc hg rfl hb]
    exact⟨by obtain⟨_,h⟩:=Option.ite_none_right_eq_some.1 h;cases h;rfl,h⟩
 | none =>
  rw[he]at h
  simp only at h ⊢
  refine⟨?_,h⟩
  cases ha:iy P t with
  | none=>rw[ha]at h;simp at h
  | some p =>
  rw[ha]at h
  cases hz:aU P p.2 with
  | none=>simp only[hz]at h;cases v<;>simp at h
  | some z =>
  simp only[hz]at h
  cases v<;>(try (simp at h;done))
  ·obtain⟨_,h⟩:=Option.ite_none_right_eq_some.1 h;cases h;rfl
  ·obtain⟨_,h⟩:=Option.ite_none_right_eq_some.1 h;cases h;rfl
theorem AA{P:Program}{g g':dk}{t:TypeId}{v x:AV}{lo hi mx:Option (Option Int)}{bs:List bN}(h:eQ P g t (some v) lo hi mx=some (x,bs))(hg:Seen g g' v):bs=[]∧eQ P g' t (some v) lo hi mx=some (x,bs):=by
 have nil : ∀ {c:Prop} [Decidable c] {o:Option (Nat × Nat × Option Nat)} {f:Nat × Nat × Option Nat→AV × List bN},(∀p,(f p).2=[])→(if c then o.map f else none)=some (x,bs)→bs=[]:=by
  intro c _ o f hf h
  obtain⟨_,h⟩:=Option.ite_none_right_eq_some.1 h
  obtain⟨p,_,h⟩:=Option.map_eq_some_iff.1 h
  have:=hf p
  rw[h]at this
  exact this
 unfold eQ at h ⊢
 cases lo<;>cases hi<;>cases mx<;>(try (simp at h;done))
 simp only at h ⊢
 cases v<;>(try (simp at h;done))
 ·rename_i y
  cases y<;>(try (simp at h;done))
  ·simp only at h ⊢
   exact⟨nil (fun _=>rfl) h,h⟩
  ·split at h
   ·rename_i e
    simp only[Option.some.injEq,AV.v.injEq,Value.slice.injEq]at e
    obtain⟨rfl,rfl,rfl⟩:=e
    exact⟨nil (fun _=>rfl) h,h⟩
   ·rename_i e;simp at e
   ·rename_i e;simp at e
   ·rename_i e;simp at e
   ·cases h
 ·simp only at h ⊢
  exact⟨nil (fun _=>rfl) h,h⟩
 ·rename_i r off len cap
  simp only at h ⊢
  cases hb:g r with
  | none=>rw[hb]at h;simp at h
  | some b =>
   rw[hb]at h
   rw[wc hg rfl hb]
   exact⟨nil (fun _=>rfl) h,h⟩
theorem FT{g g':dk}{v:AV}{p:Nat × List AV}(h:cT g v=some p)(hg:Seen g g' v):cT g' v=some p:=by
 unfold cT at h ⊢
 cases v<;>(try (simp at h;done))
 ·rename_i y
  cases y<;>first | exact h | (simp at h;done)
 ·exact h
 ·rename_i r off len cap
  simp only at h ⊢
  cases hb:g r with
  | none=>rw[hb]at h;simp at h
  | some b =>
   rw[hb]at h
   rw[wc hg rfl hb]
   exact h
theorem wN{P:Program}{g g':dk}{r r':Ref}{src dst:TypeId}{v x:AV}{bs:List bN}(hd:eR P dst=false)(h:cW P g r src dst (some v)=some (x,bs))(hg:Seen g g' v) :
 bs=[]∧cW P g' r' src dst (some v)=some (x,bs):=by
 have other : ∀ {y:AV},y=v→(if eR P src&&isStr P dst then
  match cT g y with
  | some (_,es)=>(es.mapM byteOf).map fun l=>((AV.v (.string ⟨l.toArray⟩),[]):AV × List bN)
  | none=>none
  else if src == dst&&eR P src then
   match y with
   | .cM r' _ _ _=>(match g r' with
    | some b=>if b.esz=1 then some (y,[]) else none
    | none=>none)
   | _=>none
  else none)=some (x,bs)→bs=[]∧(if eR P src&&isStr P dst then
   match cT g' y with
   | some (_,es)=>(es.mapM byteOf).map fun l=>((AV.v (.string ⟨l.toArray⟩),[]):AV × List bN)
   | none=>none
  else if src == dst&&eR P src then
   match y with
   | .cM r' _ _ _=>(match g' r' with
    | some b=>if b.esz=1 then some (y,[]) else none
    | none=>none)
   | _=>none
  else none)=some (x,bs):=by
  intro y e h
  split at h
  ·rename_i hc
   rw[if_pos hc]
   cases he:cT g y with
   | none=>rw[he]at h;simp at h
   | some p =>
    rw[he]at h
    rw[FT he (e ▸ hg)]
    refine⟨?_,h⟩
    obtain⟨_,_,h⟩:=Option.map_eq_some_iff.1 h
    cases h;rfl
  ·rename_i hc
   split at h
   ·rename_i hc2
    simp only[Bool.and_eq_true,beq_iff_eq]at hc2
    rw[hc2.1,hd]at hc2
    simp at hc2
   ·cases h
 unfold cW at h ⊢
 cases v
 case v y =>
  cases y
  case string s =>
   simp only[hd,Bool.and_false,Bool.false_eq_true,if_false]at h ⊢
   exact⟨by obtain⟨_,h⟩:=Option.ite_none_right_eq_some.1 h;cases h;rfl,h⟩
  case slice a l c =>
   rcases a with _ | a
   ·rcases l with _ | l
    ·rcases c with _ | c
     ·exact⟨by obtain⟨_,h⟩:=Option.ite_none_right_eq_some.1 h;cases h;rfl,h⟩
     ·exact⟨(nK h).2,h⟩
    ·exact⟨(nK h).2,h⟩
   ·exact⟨(nK h).2,h⟩
  all_goals exact⟨(nK h).2,h⟩
 all_goals exact other rfl h
theorem zC{P:Program}{H H':ab}{d t0:Nat}{t:TypeId}{n:Nat}{vs:List (Nat × AV)}{x:AV}(h:ig P H ⟨d,t0,H.gen d t0,0⟩ t n (some vs)=some (x,H')):tf H H' ∧∀q,H'.get q≠H.get q→Made H H' q∨q∈ck H.get (vs.map (·.2)):=by
 simp only[ig,Option.map_eq_some_iff]at h
 obtain⟨b,hb,h⟩:=h
 injection h with e1 e2
 subst e2
 generalize hR:ck H.get (vs.map (·.2))=R
 have hget : ∀q,ab.get ((⟨d,t0,H.gen d t0,0⟩,some b) :: cq H R) q=if (⟨d,t0,H.gen d t0,0⟩:Ref)=q then some b else qS H.get R q:=by
  intro q;simp only[ab.get,ab.eg]
 have hgen : ∀d' t',ab.gen ((⟨d,t0,H.gen d t0,0⟩,some b) :: cq H R) d' t'=if d=d'∧t0=t' then H.gen d t0+1 else H.gen d' t':=by
  intro d' t';simp only[ab.gen,ab.il]
 have hmade : ∀q,(⟨d,t0,H.gen d t0,0⟩:Ref)=q→Made H ((⟨d,t0,H.gen d t0,0⟩,some b) :: cq H R) q:=by
  intro q e
  subst e
  refine⟨Nat.le_refl _,?_⟩
  rw[hgen,if_pos ⟨rfl,rfl⟩]
  exact Nat.lt_succ_self _
 refine⟨⟨fun d' t'=>?_,fun q hq=>?_,fun q b1 b' h1 hg h'=>?_⟩,fun q hq=>?_⟩
 ·rw[hgen];split
  ·rename_i e;rw[←e.1,←e.2];exact Nat.le_succ _
  ·exact Nat.le_refl _
 ·rw[hget]at hq
  split at hq
  ·rename_i e;exact .inr (hmade q e)
  ·exact .inl (CG hq)
 ·rw[hget]at h'
  split at h'
  ·rename_i e;subst e;exact absurd hg (Nat.lt_irrefl _)
  ·exact FM h1 h'
 ·rw[hget]at hq
  split at hq
  ·rename_i e;exact .inl (hmade q e)
  ·unfold qS at hq
   split at hq
   ·rename_i hm;exact .inr hm
   ·exact absurd rfl hq
theorem yz{P:Program}{g g':dk}{t:TypeId}{v x:AV}{k:Option AV}{ok:Bool}{bs:List bN}(h:da P g t (some v) k ok=some (x,bs))(hg:Seen g g' v):bs=[]∧da P g' t (some v) k ok=some (x,bs):=by
 unfold da at h ⊢
 cases v<;>(try (simp at h;done))
 rename_i r
 cases ht:Dy P t with
 | none=>rw[ht]at h;simp at h
 | some p =>
 obtain⟨kt,et⟩:=p
 cases hk:k.bind fP with
 | none=>rw[ht,hk]at h;simp at h
 | some kv =>
 rw[ht,hk]at h
 simp only at h ⊢
 cases hm:hJ g r with
 | none=>rw[hm]at h;simp at h
 | some ents =>
 have hm':hJ g' r=some ents:=by
  unfold hJ at hm ⊢
  cases hb:g r with
  | none=>rw[hb]at hm;simp at hm
  | some b=>rw[hb]at hm;rw[wc hg rfl hb];exact hm
 rw[hm']
 rw[hm]at h
 refine⟨?_,h⟩
 simp only at h
 split at h
 ·split at h
  ·obtain⟨_,_,h⟩:=Option.map_eq_some_iff.1 h;cases h;rfl
  ·obtain⟨_,_,h⟩:=Option.map_eq_some_iff.1 h;cases h;rfl
  ·cases h
 ·cases h
theorem OY{E:Env}{pc:FuncId→List AV→Option AV}{g g':dk}{tm:List AV}{r:Ref}{o:Oper}(hb:blind E o=true){x:AV}{bs:List bN}(h:cB E pc true g tm r o=some (x,bs)) :
 cB E pc true g' tm r o=some (x,bs):=by
 unfold blind at hb
 replace hb:=(Bool.and_eq_true_iff.1 hb).2
 split at hb
 ·rename_i hop
  unfold cB at h ⊢
  simp only[hop]at h ⊢
  exact h
 ·rename_i hop
  unfold cB at h ⊢
  simp only[hop]at h ⊢
  exact h
 ·rename_i c hop
  obtain⟨h1,h2⟩:=Bool.and_eq_true_iff.1 hb
  split at h2
  ·rename_i f hc
   have h3:c.args.toList=[]:=by simpa using h1
   unfold cB at h ⊢
   simp only[hop,h3,hc,tx,List.mapM_nil,Option.pure_def,aZ,ik,List.nil_append,ck,List.flatMap_nil]at h ⊢
   exact h
  ·cases h2
 ·cases hb
theorem JG{E:Env}{o:Oper}(h:JH E o=true):blind E o=true:=by
 unfold JH at h
 unfold blind
 obtain⟨h1,h2⟩:=Bool.and_eq_true_iff.1 h
 rw[h1,Bool.true_and]
 split at h2
 ·rename_i hop;rw[hop]
 ·rename_i hop;rw[hop]
 ·cases h2
theorem L5{E:Env}{oi oj:Oper}(h:blind E oi=false):lT E oi oj=false:=by
 unfold lT
 cases hh:JH E oi with
 | false=>rfl
 | true=>rw[JG hh]at h;cases h
theorem lS{E:Env}{oi oj:Oper}(h:cls E oi≠3):lT E oi oj=false:=by
 unfold lT JH
 rw[beq_false_of_ne h]
 rfl
theorem L6{E:Env}{oi oj:Oper}(h:((Dd oj.op).isSome&&oj.dst.isSome)=false):lT E oi oj=false:=by
 unfold lT
 rw[h,Bool.and_false]
theorem JF{E:Env}{pc:FuncId→List AV→Option AV}{g:dk}{tm:List AV}{r:Ref}{o:Oper}(hb:JH E o=true){x:AV}{bs:List bN}(h:cB E pc true g tm r o=some (x,bs)):bs≠[]:=by
 unfold JH at hb
 replace hb:=(Bool.and_eq_true_iff.1 hb).2
 split at hb
 ·rename_i hop
  unfold cB at h
  simp only[hop]at h
  unfold bY at h
  split at h
  ·split at h
   ·cases h;simp
   ·cases h
  ·cases h
 ·rename_i hop
  unfold cB at h
  simp only[hop]at h
  cases h;simp
 ·cases hb
theorem La{E:Env}{pc:FuncId→List AV→Option AV}{tc:sn→List AV→ab→dz}{nt dep:Nat}{ops:Array Oper}{o:Oper}{st st2:St}{t:Tmp}(hop:Dd o.op=some t)(hw:wanted ops st.tm o=some true)(h:evalOp E pc tc nt dep true ops o st=some st2) :
 (∃x bs tm',cB E pc true st.hp.get st.tm ⟨dep,o.dst.getD 0,st.hp.gen dep (o.dst.getD 0),0⟩ o=some (x,bs)∧dq nt st.tm o.dst x=some tm'∧st2=⟨tm',keyed ⟨dep,o.dst.getD 0,st.hp.gen dep (o.dst.getD 0),0⟩ 0 bs st.hp⟩) ∨
 ∃c y z x,o.op = .call c∧c.callee = .builtin .append∧c.args.toList.mapM (aZ st.tm)=some [y,z]∧kn E.P st.hp c.argTypes[0]? c.argTypes[1]? y z=some (x,st2.hp)∧y=cU st.tm t∧dq nt st.tm o.dst x=some st2.tm:=by
 unfold evalOp at h
 rw[hw]at h
 simp only at h
 split at h
 ·rename_i x bs hq
  simp only[Option.map_eq_some_iff]at h
  obtain⟨tm',ht,rfl⟩:=h
  exact .inl ⟨x,bs,tm',hq,ht,rfl⟩
 ·split at h
  ·cases h
  ·split at h
   ·rename_i x H hW
    simp only[Option.map_eq_some_iff]at h
    obtain⟨tm',ht,rfl⟩:=h
    refine .inr ?_
    unfold Dd at hop
    split at hop
    ·rename_i c ho
     split at hop
     ·rename_i hc
      split at hop
      ·rename_i t' rest hargs
       cases hop
       unfold evalW at hW
       simp only[ho,hc,hargs]at hW
       cases hm:List.mapM (aZ st.tm) (Operand.tmp t :: rest) with
       | none=>rw[hm]at hW;simp at hW
       | some args =>
        rw[hm]at hW
        have hm2:=hm
        simp only[List.mapM_cons,aZ,Option.pure_def,Option.bind_eq_bind,Option.bind_some,Option.bind_eq_some_iff]at hm
        obtain⟨l,hl,e⟩:=hm
        simp at e
        subst e
        simp only at hW
        split at hW
        ·rename_i s y e1 e2
         cases e2
         exact⟨c,_,_,x,ho,hc,by rw[hargs];exact hm2,hW,rfl,ht⟩
        ·rename_i e1 e2;cases e1
        ·cases hW
      ·cases hop
     ·cases hop
    ·cases hop
   ·cases h
theorem Ht{E:Env}{pc:FuncId→List AV→Option AV}{g:dk}{tm:List AV}{r:Ref}{o:Oper}{t:Tmp}(hl:wT E.P o.op=some t){x:AV}{bs:List bN}(h:cB E pc true g tm r o=some (x,bs)) :
 bs=[] ∧∀g' r',Seen g g' (cU tm t)→cB E pc true g' tm r' o=some (x,bs):=by
 unfold wT at hl
 split at hl
 ·rename_i ty t' hop
  cases hl
  unfold cB at h ⊢
  simp only[hop]at h ⊢
  exact⟨(B5 h (fun _ _ _=>rfl)).1,fun g' r' hg=>(B5 h hg).2⟩
 ·rename_i ty t' ix hop
  cases hl
  unfold cB at h ⊢
  simp only[hop]at h ⊢
  exact⟨(uh h (fun _ _ _=>rfl)).1,fun g' r' hg=>(uh h hg).2⟩
 ·rename_i ty t' lo hi mx hop
  cases hl
  unfold cB at h ⊢
  simp only[hop,Bool.not_true,Bool.and_false,cond_false]at h ⊢
  exact⟨(AA h (fun _ _ _=>rfl)).1,fun g' r' hg=>(AA h hg).2⟩
 ·rename_i src dst t' hop
  split at hl
  ·cases hl
  ·rename_i hbs
   cases hl
   unfold cB at h ⊢
   simp only[hop]at h ⊢
   have hbs':eR E.P dst=false:=by simpa using hbs
   exact⟨(wN (r':=r) hbs' h (fun _ _ _=>rfl)).1,fun g' r' hg=>(wN hbs' h hg).2⟩
 ·rename_i ty t' k ok hop
  cases hl
  unfold cB at h ⊢
  simp only[hop]at h ⊢
  exact⟨(yz h (fun _ _ _=>rfl)).1,fun g' r' hg=>(yz h hg).2⟩
 ·rename_i c hop
  split at hl
  ·rename_i hc
   split at hl
   ·rename_i t' hargs
    cases hl
    unfold cB at h ⊢
    simp only[hop,hargs,hc,List.mapM_cons,List.mapM_nil,aZ,Option.pure_def,Option.bind_eq_bind,Option.bind_some]at h ⊢
    cases hv:cU tm t with
    | mp q =>
     rw[hv]at h
     simp only[aJ]at h ⊢
     obtain⟨hd,h⟩:=Option.ite_none_left_eq_some.1 h
     simp only[if_neg hd]
     refine⟨?_,fun g' r' hg=>?_⟩
     ·unfold re at h
      split at h
      ·cases h;rfl
      ·cases h
     ·unfold re at h ⊢
      split at h
      ·rename_i p ents ht hm
       have hm':hJ g' q=some ents:=by
        unfold hJ at hm ⊢
        cases hb:g q with
        | none=>rw[hb]at hm;simp at hm
        | some b=>rw[hb]at hm;rw[wc hg rfl hb];exact hm
       simp only[ht,hm']
       exact h
      ·cases h
    | _ =>
     rw[hv]at h
     simp only[aJ]at h ⊢
     refine⟨?_,fun g' r' hg=>h⟩
     unfold DD at h
     (repeat' split at h)<;>(try simp_all)<;>(try (obtain⟨_,_,_,h⟩:=h;exact h))<;>(try (obtain⟨n,_,h⟩:=Option.bind_eq_some_iff.1 h;simp at h;exact h.2))
   ·cases hl
  ·cases hl
 ·cases hl
end Go.Ab
namespace Go.Ab
section
variable{E:Env}{o:Oper}
theorem C5(h:cls E o=0):so E o=false:=by
 unfold cls at h
 cases hh:so E o with
 | false=>rfl
 | true=>rw[hh]at h;simp only[if_true]at h;(repeat' split at h)<;>omega
theorem F1(h:cls E o=1) : ∃t,wT E.P o.op=some t∧jY E o=some t∧gB E o=false:=by
 unfold cls at h
 split at h
 ·split at h
  ·cases h
  ·rename_i hs
   split at h
   ·rename_i hl
    obtain⟨t,ht⟩:=Option.isSome_iff_exists.1 hl
    refine⟨t,ht,?_,?_⟩
    ·have:storeT o.op=none:=by simpa using hs
     simp[jY,this,ht]
    ·unfold gB
     have:Sz E o.op=false∧wE o.op=false:=by
      unfold wT at ht
      split at ht<;>(try (rename_i hop;rw[hop];exact⟨rfl,rfl⟩))
      ·rename_i c hop
       split at ht
       ·rename_i hc
        rw[hop]
        simp[Sz,wE,hc]
       ·cases ht
      cases ht
     rw[this.1,this.2];simp
   ·split at h<;>cases h
 ·cases h
theorem KT(h:cls E o=2) : ∃ty t x,o.op = .store ty (.tmp t) x∧jY E o=some t:=by
 unfold cls at h
 split at h
 ·split at h
  ·rename_i hs
   obtain⟨t,ht⟩:=Option.isSome_iff_exists.1 hs
   have ht':=ht
   unfold storeT at ht
   split at ht
   ·rename_i ty t' x hop
    cases ht
    exact⟨ty,t,x,hop,by simp[jY,ht']⟩
   ·cases ht
  ·(repeat' split at h)<;>cases h
 ·cases h
theorem wz(h:cls E o=3):so E o=true∧gB E o=false:=by
 unfold cls at h
 split at h
 ·rename_i hh
  split at h
  ·cases h
  ·split at h
   ·cases h
   ·split at h
    ·cases h
    ·rename_i hw;exact⟨hh,by simpa using hw⟩
 ·cases h
theorem Io(h:cls E o=4):jY E o=if wE o.op then Sv o.op else BL o.op:=by
 unfold cls at h
 split at h
 ·split at h
  ·cases h
  ·rename_i hs
   split at h
   ·cases h
   ·rename_i hl
    have h1:storeT o.op=none:=by simpa using hs
    have h2:wT E.P o.op=none:=by simpa using hl
    simp[jY,h1,h2]
 ·cases h
end
theorem GY{E:Env}{o:Oper}(h:mS E o=true) : ∃c g,o.op = .call c∧c.callee = .value (.func g)∧E.mode g=2∧E.jb o=true∧E.strict o=false:=by
 unfold mS at h
 rw[Bool.and_eq_true,Bool.and_eq_true]at h
 obtain⟨⟨h1,h2⟩,h3⟩:=h
 split at h3
 ·rename_i c hop
  split at h3
  ·rename_i g hc
   exact⟨c,g,hop,hc,by simpa using h3,h1,by simpa using h2⟩
  ·cases h3
 ·cases h3
theorem Lw{E:Env}{o:Oper}(h:mS E o=true):cls E o=4∧jY E o=none:=by
 obtain⟨c,g,hop,hc,hm,hf,hs⟩:=GY h
 have h1:storeT o.op=none:=by rw[hop];rfl
 have h2:wT E.P o.op=none:=by rw[hop];simp[wT,hc]
 have h3:ib o.op=true:=by rw[hop];simp[ib,hc]
 have h4:gB E o=true:=by simp[gB,hs,hop,Sz,hc,hm]
 have h5:BL o.op=none:=by rw[hop];simp[BL,LR,Dd,hc]
 have h6:wE o.op=false:=by rw[hop];rfl
 refine⟨?_,?_⟩
 ·have h7:so E o=true:=fm h4
  simp[cls,h1,h2,h7,h4]
 ·simp[jY,h1,h2,h5,h6]
theorem oK{E:Env}{o:Oper}{t:Tmp}(h:jY E o=some t):mS E o=false:=by
 cases hr:mS E o with
 | false=>rfl
 | true=>rw[(Lw hr).2]at h;cases h
theorem Oc{E:Env}{pc:FuncId→List AV→Option AV}{tc:sn→List AV→ab→dz}{H H':ab}{tm:List AV}{r:Ref}{o:Oper}{t:Tmp}(hl:LR o.op=some t){x:AV}(h:evalW E pc tc H tm r o=some (x,H')) :
 ∃q ents ents',gJ (cU tm t)=some q∧hJ H.get q=some ents∧H'=H.put q (some (bw ents')):=by
 have upd : ∀ {ty:TypeId} {m:AV} {k v:Option AV} {y:AV} {H':ab},dO E.P H ty (some m) k v=some (y,H') →∃q ents ents',gJ m=some q∧hJ H.get q=some ents∧H'=H.put q (some (bw ents')):=by
  intro ty m k v y H' h
  unfold dO at h
  split at h
  ·rename_i kt et q k' x' e1 e2
   simp only[Option.some.injEq]at e2
   subst e2
   split at h
   ·rename_i kv ents e5 e6
    split at h
    ·split at h
     ·split at h
      ·cases h;exact⟨q,ents,_,rfl,e6,rfl⟩
      ·cases h
     ·cases h;exact⟨q,ents,_,rfl,e6,rfl⟩
     ·cases h
    ·cases h
   ·cases h
  ·cases h
 unfold LR at hl
 split at hl
 ·rename_i hop
  cases hl
  unfold evalW at h
  simp only[hop,aZ]at h
  exact upd h
 ·rename_i hop
  cases hl
  unfold evalW at h
  simp only[hop,aZ]at h
  exact upd h
 ·rename_i ty t' k hop
  cases hl
  unfold evalW at h
  simp only[hop,aZ]at h
  unfold eF at h
  split at h
  ·rename_i kt et q k' e1 e2 e3
   split at h
   ·rename_i kv ents e5 e6
    split at h
    ·split at h
     ·split at h
      ·simp only[Option.map_eq_some_iff]at h
       obtain⟨v,_,h⟩:=h
       cases h
       simp only[Option.some.injEq]at e2
       exact⟨q,ents,_,by rw[e2];rfl,e6,rfl⟩
      ·cases h
     ·simp only[Option.map_eq_some_iff]at h
      obtain⟨v,_,h⟩:=h
      cases h
      simp only[Option.some.injEq]at e2
      exact⟨q,ents,_,by rw[e2];rfl,e6,rfl⟩
     ·cases h
    ·cases h
   ·cases h
  ·cases h
 ·rename_i k t' m x' hop
  cases hl
  unfold evalW at h
  simp only[hop,aZ]at h
  unfold dn at h
  split at h
  ·rename_i q kk n xx e1 e2 e3
   split at h
   ·rename_i ents e6
    split at h
    ·split at h
     ·cases h
      simp only[Option.some.injEq]at e1
      exact⟨q,ents,_,by rw[e1];rfl,e6,rfl⟩
     ·cases h
    ·cases h
   ·cases h
  ·cases h
 ·cases hl
theorem LS{g:dk}{r:Ref}{ents:List AV}(h:hJ g r=some ents) : ∃b,g r=some b∧b.arr=false:=by
 unfold hJ at h
 split at h
 ·rename_i e;exact⟨_,e,rfl⟩
 ·cases h
theorem tf.map{H:ab}{r:Ref}{ents ents':List AV}(hm:hJ H.get r=some ents):tf H (H.put r (some (bw ents'))):=by
 obtain⟨b0,hr,ha⟩:=LS hm
 refine⟨fun d t=>?_,fun q h=>?_,fun q b1 b' h hg h'=>?_⟩
 ·rw[ab.kz _ _ _ (by rw[hr];rfl)];exact Nat.le_refl _
 ·rw[ab.get_put]at h
  split at h
  ·rename_i e;subst e;exact .inl (by rw[hr];simp)
  ·exact .inl h
 ·rw[ab.get_put]at h'
  split at h'
  ·rename_i e;subst e
   cases h'
   rw[hr]at h;cases h
   rw[ha];rfl
  ·rw[h]at h';cases h';rfl
theorem O2{E:Env}{pc:FuncId→List AV→Option AV}{tc:sn→List AV→ab→dz}{H H':ab}{tm:List AV}{r:Ref}{o:Oper}{t:Tmp}(hl:Dd o.op=some t){x:AV}(h:evalW E pc tc H tm r o=some (x,H')) :
 ∃t1 t2 y z,gJ y=gJ (cU tm t)∧kn E.P H t1 t2 y z=some (x,H'):=by
 unfold Dd at hl
 split at hl
 ·rename_i c hop
  split at hl
  ·rename_i hc
   split at hl
   ·rename_i t' rest hargs
    cases hl
    unfold evalW at h
    simp only[hop,hc,hargs]at h
    cases hm:List.mapM (aZ tm) (Operand.tmp t :: rest) with
    | none=>rw[hm]at h;simp at h
    | some args =>
     rw[hm]at h
     simp only[List.mapM_cons,aZ,Option.pure_def,Option.bind_eq_bind,Option.bind_some,Option.bind_eq_some_iff]at hm
     obtain⟨l,hl,e⟩:=hm
     simp at e
     subst e
     simp only at h
     split at h
     ·rename_i s y e1 e2
      cases e2
      exact⟨_,_,_,_,rfl,h⟩
     ·rename_i e1 e2;cases e1
     ·cases h
   ·cases hl
  ·cases hl
 ·cases hl
theorem IG{P:Program}{H H':ab}{t:TypeId}{a x:Option AV}{y:AV}(h:aT P H t a x=some (y,H'))(d k:Nat):H'.gen d k=H.gen d k:=by
 unfold aT at h
 split at h
 ·split at h
  ·rename_i r' i j x' n _ b hb
   obtain⟨⟨hxn,hx1,hfr⟩,h⟩:=Option.ite_none_right_eq_some.1 h
   split at h
   ·split at h
    ·rename_i y' hy'
     split at h
     ·cases h
     ·rename_i hnr
      obtain⟨hy1,h⟩:=Option.ite_none_right_eq_some.1 h
      simp only[Option.map_eq_some_iff]at h
      obtain⟨es',hes,h⟩:=h
      cases h
      rw[ab.kz _ _ _ (by rw[ab.eg];unfold qS;rw[if_neg hnr,hb];rfl),ab.il]
    ·cases h
   ·simp only[Option.map_eq_some_iff]at h
    obtain⟨es',hes,h⟩:=h
    cases h
    rw[ab.kz _ _ _ (by rw[hb];rfl)]
  ·cases h
 ·cases h
theorem GA{P:Program}{M:Mem}{ι:Map}{g:dk}{w:World}(hS:fh M ι g w){t:TypeId}{n:Nat}(hn:aU P t=some n){r:Ref}{i j:Nat}{x:AV}{ua ux:Value}(ha:VR M ι (.ptr r i j) ua)(hx:VR M ι x ux)
 {b:bN} (hb:g r=some b) (hxn:x.cells.length=n) (hx1:x.cells.all AV.one=true) (hfr:b.jb=false) (harr:b.arr=false) {es':List AV} (hes:fb b.es i j x.cells=some es') :
 ∃w',(Instr.storeAt t ua ux).run P w = .ok () w'∧fh M ι (iz g r { b with es:=es'}) w'∧pA M ι g w M ι (iz g r { b with es:=es'}) w':=by
 cases ha with | ptr hl hzl =>
 rename_i l
 have hbk:=hS.at hl hzl hb
 have hxs:=hx.cells
 have hun:ux.cells.size=n:=by have:=hxs.1;simp at this;omega
 obtain⟨arr,T,fz,h3,h4,h5,h6,h7,h8⟩:=Br hS hb hl hzl hfr hes hx1 (us:=ux.cells.toList) (by rw[bN.map,if_neg (by simp[harr])];exact hxs)
 refine⟨bW w l.b (.cells (cz arr (i * b.esz+j) ux.cells.toList) T fz),?_,h7,h8⟩
 rw[hbk.esz]
 exact uY hn hun h3 h4 h5 h6
section
variable{E:Env}{pc:FuncId→List AV→Option AV}{tc:sn→List AV→ab→dz}{nt dep:Nat}{ops:Array Oper}{sts:Nat→St}
variable(hL:Uo E ops)(hrun : ∀i o,ops[i]?=some o→evalOp E pc tc nt dep true ops o (sts i)=some (sts (i+1)))
abbrev makes(sts:Nat→St)(j:Nat)(q:Ref):Prop:=Made (sts j).hp (sts (j+1)).hp q
abbrev turns(sts:Nat→St)(j:Nat)(q:Ref):Prop:=(sts (j+1)).hp.get q≠(sts j).hp.get q
theorem PZ{o:Oper}{st st2:St}{t:Tmp}(hop:Sv o.op=some t)(h:evalOp E pc tc nt dep true ops o st=some st2) :
 st2.hp=st.hp∨(∃bs,st2.hp=keyed ⟨dep,o.dst.getD 0,st.hp.gen dep (o.dst.getD 0),0⟩ 0 bs st.hp) ∨∃t1 n i x,ig E.P st.hp ⟨dep,o.dst.getD 0,st.hp.gen dep (o.dst.getD 0),0⟩ t1 n (some [(i,cU st.tm t)])=some (x,st2.hp):=by
 unfold evalOp at h
 split at h
 ·cases h
 ·simp only[Option.map_eq_some_iff]at h
  obtain⟨tm',ht,rfl⟩:=h
  exact .inl rfl
 ·split at h
  ·rename_i x bs hq
   simp only[Option.map_eq_some_iff]at h
   obtain⟨tm',ht,rfl⟩:=h
   exact .inr (.inl ⟨bs,rfl⟩)
  ·split at h
   ·cases h
   ·split at h
    ·rename_i x H hW
     simp only[Option.map_eq_some_iff]at h
     obtain⟨tm',ht,rfl⟩:=h
     unfold Sv at hop
     split at hop
     ·rename_i t1 n ps ho
      split at hop
      ·rename_i i t' hps
       cases hop
       unfold evalW at hW
       simp only[ho,hps]at hW
       exact .inr (.inr ⟨t1,n,i,x,hW⟩)
      ·cases hop
     ·cases hop
    ·cases h
theorem vY{o:Oper}{st st2:St}(hc:cls E o=0∨cls E o=1)(h:evalOp E pc tc nt dep true ops o st=some st2):st2.hp=st.hp:=by
 rcases lG h with ⟨_,tm',ht,he⟩ | ⟨_,x,bs,hq,tm',ht,he⟩ | hwk
 ·rw[he]
 ·rw[he]
  rcases hc with hc | hc
  ·rw[(sH (C5 hc) hq).1];rfl
  ·obtain⟨t,ht,_,_⟩:=F1 hc
   rw[(Ht ht hq).1];rfl
 ·rcases hc with hc | hc
  ·have:=C5 hc;rw[fm hwk]at this;cases this
  ·obtain⟨t,ht,_,hw⟩:=F1 hc
   rw[hw]at hwk;cases hwk
theorem BU{o:Oper}{st st2:St}{ty:TypeId}{t:Tmp}{xo:Operand}(hop:o.op = .store ty (.tmp t) xo)(h:evalOp E pc tc nt dep true ops o st=some st2)(hw:wanted ops st.tm o=some true) :
 ∃y,aT E.P st.hp ty (some (cU st.tm t)) (aZ st.tm xo)=some (y,st2.hp)∧dq nt st.tm o.dst y=some st2.tm:=by
 unfold evalOp at h
 rw[hw]at h
 have hq:cB E pc true st.hp.get st.tm ⟨dep,o.dst.getD 0,st.hp.gen dep (o.dst.getD 0),0⟩ o=none:=by unfold cB;simp only[hop]
 rw[hq]at h
 simp only at h
 split at h
 ·cases h
 ·split at h
  ·rename_i x H hW
   simp only[Option.map_eq_some_iff]at h
   obtain⟨tm',ht,rfl⟩:=h
   unfold evalW at hW
   simp only[hop]at hW
   exact⟨x,hW,ht⟩
  ·cases h
theorem step_map{o:Oper}{st st2:St}{t:Tmp}(hop:LR o.op=some t)(h:evalOp E pc tc nt dep true ops o st=some st2) :
 st2.hp=st.hp∨(∃bs,st2.hp=keyed ⟨dep,o.dst.getD 0,st.hp.gen dep (o.dst.getD 0),0⟩ 0 bs st.hp) ∨∃q ents ents',gJ (cU st.tm t)=some q∧hJ st.hp.get q=some ents∧st2.hp=st.hp.put q (some (bw ents')):=by
 unfold evalOp at h
 split at h
 ·cases h
 ·simp only[Option.map_eq_some_iff]at h
  obtain⟨tm',ht,rfl⟩:=h
  exact .inl rfl
 ·split at h
  ·rename_i x bs hq
   simp only[Option.map_eq_some_iff]at h
   obtain⟨tm',ht,rfl⟩:=h
   exact .inr (.inl ⟨bs,rfl⟩)
  ·split at h
   ·cases h
   ·split at h
    ·rename_i x H hW
     simp only[Option.map_eq_some_iff]at h
     obtain⟨tm',ht,rfl⟩:=h
     exact .inr (.inr (Oc hop hW))
    ·cases h
theorem K9{o:Oper}{st st2:St}(hr:mS E o=true)(h:evalOp E pc tc nt dep true ops o st=some st2):st2.hp=st.hp:=by
 obtain⟨c,g,hop,hc,hm,hf,hs⟩:=GY hr
 unfold evalOp at h
 split at h
 ·cases h
 ·simp only[Option.map_eq_some_iff]at h
  obtain⟨tm',ht,rfl⟩:=h
  rfl
 ·split at h
  ·rename_i x bs hq
   exfalso
   unfold cB at hq
   simp only[hop,hc]at hq
   split at hq
   ·cases hq
   ·simp only[tx,aZ,ik,hm,if_true,Option.map_none]at hq
    cases hq
  ·split at h
   ·cases h
   ·split at h
    ·rename_i x H hW
     simp only[Option.map_eq_some_iff]at h
     obtain⟨tm',ht,rfl⟩:=h
     unfold evalW at hW
     simp only[hop,hc]at hW
     split at hW
     ·cases hW
     ·rw[hf]at hW
      cases hw:kJ E pc tc st.hp ⟨dep,o.dst.getD 0,st.hp.gen dep (o.dst.getD 0),0⟩ (aZ st.tm (.func g)) _ with
      | none=>rw[hw]at hW;simp[m3]at hW
      | some p =>
       obtain⟨y,H'⟩:=p
       rw[hw]at hW
       unfold m3 at hW
       simp only at hW
       split at hW
       ·cases hW;rfl
       ·cases hW
    ·cases h
theorem MZ{o:Oper}{st st2:St}{t:Tmp}(hop:Dd o.op=some t)(h:evalOp E pc tc nt dep true ops o st=some st2) :
 st2.hp=st.hp∨(∃bs,st2.hp=keyed ⟨dep,o.dst.getD 0,st.hp.gen dep (o.dst.getD 0),0⟩ 0 bs st.hp) ∨∃t1 t2 y z x,gJ y=gJ (cU st.tm t)∧kn E.P st.hp t1 t2 y z=some (x,st2.hp):=by
 unfold evalOp at h
 split at h
 ·cases h
 ·simp only[Option.map_eq_some_iff]at h
  obtain⟨tm',ht,rfl⟩:=h
  exact .inl rfl
 ·split at h
  ·rename_i x bs hq
   simp only[Option.map_eq_some_iff]at h
   obtain⟨tm',ht,rfl⟩:=h
   exact .inr (.inl ⟨bs,rfl⟩)
  ·split at h
   ·cases h
   ·split at h
    ·rename_i x H hW
     simp only[Option.map_eq_some_iff]at h
     obtain⟨tm',ht,rfl⟩:=h
     obtain⟨t1,t2,y,z,h1,h2⟩:=O2 hop hW
     exact .inr (.inr ⟨t1,t2,y,z,x,h1,h2⟩)
    ·cases h
theorem Cx{H:ab}{d t:Nat}{bs:List bN}{q:Ref}(h:(keyed ⟨d,t,H.gen d t,0⟩ 0 bs H).get q≠H.get q):Made H (keyed ⟨d,t,H.gen d t,0⟩ 0 bs H) q:=by
 rw[ab.ju]at h
 unfold oV at h
 split at h
 ·rename_i hc
  obtain⟨h1,h2,h3,h4⟩:=hc
  refine⟨?_,?_⟩
  ·rw[h1,h2,h3];exact Nat.le_refl _
  ·rw[ab.ja,if_pos ⟨h1,h2,by intro e;rw[e]at h4;simp at h4⟩,h3];exact Nat.lt_succ_self _
 ·exact absurd rfl h
include hrun in
theorem Fk{i n:Nat}(hin:i≤n)(hn:n≤ops.size){t:Tmp}(hs : ∀k,gl ops k=some t→k<i):cU (sts n).tm t=cU (sts i).tm t:=by
 induction n with
 | zero=>rw[Nat.le_zero.1 hin]
 | succ n ih =>
  rcases Nat.lt_or_ge n i with h | h
  ·rw[show i=n+1 by omega]
  ·have ho:=Array.getElem?_eq_getElem (show n<ops.size from hn)
   obtain⟨x,hx⟩:=GC (hrun n _ ho)
   rw[q7 hx,if_neg,ih h (by omega)]
   intro e
   have:=hs n (by simp[gl,ho,e])
   omega
variable(hbf:ops.toList.all (C8 E (sts ops.size))=true)
include hL hrun hbf
theorem BR{i:Nat}{o:Oper}(ho:ops[i]?=some o):tf (sts i).hp (sts (i+1)).hp∧(cls E o<3 →∀d t,(sts (i+1)).hp.gen d t=(sts i).hp.gen d t) ∧
 (cls E o≠2 →∀q,turns sts i q→makes sts i q∨cls E o=4 ∧∃t,jY E o=some t∧gJ (cU (sts i).tm t)=some q):=by
 have h:=hrun i o ho
 have hle:=Aj E o
 have hcs:cls E o=0∨cls E o=1∨cls E o=2∨cls E o=3∨cls E o=4:=by omega
 have same:(sts (i+1)).hp=(sts i).hp→tf (sts i).hp (sts (i+1)).hp∧(cls E o<3 →∀d t,(sts (i+1)).hp.gen d t=(sts i).hp.gen d t) ∧
  (cls E o≠2 →∀q,turns sts i q→makes sts i q∨cls E o=4 ∧∃t,jY E o=some t∧gJ (cU (sts i).tm t)=some q):=by
  intro e
  refine⟨by rw[e];exact tf.refl _,fun _ d t=>by rw[e],fun _ q hq=>?_⟩
  unfold turns at hq
  rw[e]at hq
  exact absurd rfl hq
 rcases hcs with hc | hc | hc | hc | hc
 ·exact same (vY (.inl hc) h)
 ·exact same (vY (.inr hc) h)
 ·obtain⟨ty,t,x,hop,hs⟩:=KT hc
  cases hw:wanted ops (sts i).tm o with
  | none=>unfold evalOp at h;rw[hw]at h;cases h
  | some b =>
   cases b with
   | false =>
    unfold evalOp at h;rw[hw]at h
    simp only[Option.map_eq_some_iff]at h
    obtain⟨tm',_,e⟩:=h
    exact same (by rw[←e])
   | true =>
    obtain⟨y,hW,_⟩:=BU hop h hw
    exact⟨Gh hW,fun _ d t=>IG hW d t,fun hn=>absurd hc hn⟩
 ·have hwk:=(wz hc).2
  rcases lG h with ⟨_,tm',ht,he⟩ | ⟨_,x,bs,hq,tm',ht,he⟩ | hwk'
  ·exact same (by rw[he])
  ·have e:(sts (i+1)).hp=keyed ⟨dep,o.dst.getD 0,(sts i).hp.gen dep (o.dst.getD 0),0⟩ 0 bs (sts i).hp:=by rw[he]
   refine⟨by rw[e];exact tf.keyed _ _ _ _,fun hlt=>by omega,fun _ q hq => .inl ?_⟩
   unfold turns at hq
   unfold makes
   rw[e]at hq ⊢
   exact Cx hq
  ·rw[hwk]at hwk';cases hwk'
 ·cases hrd:mS E o with
  | true=>exact same (K9 hrd h)
  | false =>
  obtain⟨t,ht,hst⟩:=hL.stay i o ho (by omega) (by omega) hrd
  have hk : ∀bs,(sts (i+1)).hp=keyed ⟨dep,o.dst.getD 0,(sts i).hp.gen dep (o.dst.getD 0),0⟩ 0 bs (sts i).hp→tf (sts i).hp (sts (i+1)).hp∧(cls E o<3 →∀d t,(sts (i+1)).hp.gen d t=(sts i).hp.gen d t) ∧
   (cls E o≠2 →∀q,turns sts i q→makes sts i q∨cls E o=4 ∧∃t,jY E o=some t∧gJ (cU (sts i).tm t)=some q):=by
   intro bs e
   refine⟨by rw[e];exact tf.keyed _ _ _ _,fun hlt=>by omega,fun _ q hq => .inl ?_⟩
   unfold turns at hq
   unfold makes
   rw[e]at hq ⊢
   exact Cx hq
  cases hb:wE o.op with
  | false =>
   have htr:BL o.op=some t:=by rw[Io hc,hb]at ht;simpa using ht
   cases hmt:LR o.op with
   | some t' =>
    have e':t'=t:=by unfold BL at htr;rw[hmt]at htr;simpa using htr
    subst e'
    rcases step_map hmt h with e | ⟨bs,e⟩ | ⟨q,ents,ents',hq,hm,e⟩
    ·exact same e
    ·exact hk bs e
    ·refine⟨by rw[e];exact tf.map hm,fun hlt=>by omega,fun _ q' hqt => .inr ⟨hc,t',ht,?_⟩⟩
     unfold turns at hqt
     rw[e,ab.get_put]at hqt
     split at hqt
     ·rename_i e2;subst e2;exact hq
     ·exact absurd rfl hqt
   | none =>
   have hap:Dd o.op=some t:=by unfold BL at htr;rw[hmt]at htr;exact htr
   rcases MZ hap h with e | ⟨bs,e⟩ | ⟨t1,t2,y,z,x,hy,hA⟩
   ·exact same e
   ·exact hk bs e
   ·obtain⟨hm,r,hr,hq⟩:=E7 hA
    refine⟨hm,fun hlt=>by omega,fun _ q hqt=>?_⟩
    rcases hq q hqt with h1 | h1
    ·exact .inl h1
    ·subst h1;exact .inr ⟨hc,t,ht,by rw[←hy];exact hr⟩
  | true =>
   have hbt:Sv o.op=some t:=by rw[Io hc,hb]at ht;simpa using ht
   rcases PZ hbt h with e | ⟨bs,e⟩ | ⟨t1,n,i',x,hA⟩
   ·exact same e
   ·exact hk bs e
   ·obtain⟨hm,hq⟩:=zC hA
    refine⟨hm,fun hlt=>by omega,fun _ q hqt=>?_⟩
    rcases hq q hqt with h1 | h1
    ·exact .inl h1
    ·refine .inr ⟨hc,t,ht,?_⟩
     have hfr:(E.jb o&&wE o.op)=true:=by
      have hw:gB E o=true:=by
       unfold cls at hc
       split at hc
       ·split at hc
        ·cases hc
        ·split at hc
         ·cases hc
         ·split at hc
          ·assumption
          ·cases hc
       ·cases hc
      unfold gB at hw
      rcases Bool.or_eq_true_iff.1 hw with h2 | h2
      ·exfalso
       replace h2:=(Bool.and_eq_true_iff.1 h2).2
       unfold wE at hb
       split at hb
       ·rename_i ho2;rw[ho2]at h2;cases h2
       ·cases hb
      ·exact h2
     have hi:i<ops.size:=(Array.getElem?_eq_some_iff.1 ho).1
     have hbf':=List.all_eq_true.1 hbf o (List.mem_of_getElem? (i:=i) (by simpa using ho))
     unfold C8 at hbf'
     rw[hfr,hbt]at hbf'
     simp only[Bool.not_true,Bool.false_or]at hbf'
     rw[Fk hrun (Nat.le_of_lt hi) (Nat.le_refl ops.size) hst]at hbf'
     simp only[List.map_cons,List.map_nil,ck,List.flatMap_cons,List.flatMap_nil,List.append_nil]at h1
     revert hbf' h1
     generalize cU (sts i).tm t=v
     intro hbf' h1
     cases v with
     | cM r off len cap=>simp only[aH,depth,List.mem_singleton]at h1;rw[h1];rfl
     | v y=>simp[aH,depth]at h1
     | _=>cases hbf'
theorem oC{i n:Nat}(hin:i≤n)(hn:n≤ops.size)(d t:Nat):(sts i).hp.gen d t≤(sts n).hp.gen d t:=by
 induction n with
 | zero=>rw[Nat.le_zero.1 hin];exact Nat.le_refl _
 | succ n ih =>
  rcases Nat.lt_or_ge n i with h | h
  ·rw[show i=n+1 by omega];exact Nat.le_refl _
  ·exact Nat.le_trans (ih h (by omega)) ((BR hL hrun hbf (Array.getElem?_eq_getElem (show n<ops.size from hn))).1.gen d t)
theorem IS{M:Mem}{ι:Map}{w:World}(hS0:fh M ι (sts 0).hp.get w)(hD0:pB ι (sts 0).hp){n:Nat}(hn:n≤ops.size) : ∀q,(sts n).hp.get q≠none→q.g<(sts n).hp.gen q.d q.t:=by
 induction n with
 | zero =>
  intro q h
  cases hq:(sts 0).hp.get q with
  | none=>exact absurd hq h
  | some k=>obtain⟨l,hl,_⟩:=hS0.live q k hq;exact hD0 q l hl
 | succ n ih =>
  intro q h
  have hm:=(BR hL hrun hbf (Array.getElem?_eq_getElem (show n<ops.size from hn))).1
  rcases hm.born q h with h1 | h1
  ·exact Nat.lt_of_lt_of_le (ih (by omega) q h1) (hm.gen _ _)
  ·exact h1.2
theorem WW{M:Mem}{ι:Map}{w:World}(hS0:fh M ι (sts 0).hp.get w)(hD0:pB ι (sts 0).hp){i:Nat}{r:Ref}{b:bN}(hb:(sts i).hp.get r=some b){n:Nat}(hin:i≤n)(hn:n≤ops.size) : ∀b',(sts n).hp.get r=some b'→b'.arr=b.arr:=by
 induction n with
 | zero=>intro b' h;rw[Nat.le_zero.1 hin]at hb;rw[hb]at h;cases h;rfl
 | succ n ih =>
  intro b' h
  rcases Nat.lt_or_ge n i with hlt | hge
  ·rw[show i=n+1 by omega]at hb;rw[hb]at h;cases h;rfl
  ·have hm:=(BR hL hrun hbf (Array.getElem?_eq_getElem (show n<ops.size from hn))).1
   rcases hm.born r (by rw[h];simp)with h1 | h1
   ·cases hk:(sts n).hp.get r with
    | none=>exact absurd hk h1
    | some k=>rw[hm.arr r k b' hk (IS hL hrun hbf hS0 hD0 (by omega) r h1) h];exact ih hge (by omega) k hk
   ·have h2:=IS hL hrun hbf hS0 hD0 (show i≤ops.size by omega) r (by rw[hb];simp)
    have h3:=oC hL hrun hbf hge (by omega) r.d r.t
    have:=h1.1
    omega
theorem zS{j j':Nat}{q:Ref}(hj:j<ops.size)(hj':j'<ops.size)(h:makes sts j q)(h':makes sts j' q):j=j':=by
 rcases Nat.lt_trichotomy j j' with hlt | rfl | hlt
 ·have:=oC hL hrun hbf (show j+1≤j' from hlt) (Nat.le_of_lt hj') q.d q.t
  have:=h.2;have:=h'.1
  omega
 ·rfl
 ·have:=oC hL hrun hbf (show j'+1≤j from hlt) (Nat.le_of_lt hj) q.d q.t
  have:=h'.2;have:=h.1
  omega
theorem u9{j:Nat}{q:Ref}{o:Oper}(ho:ops[j]?=some o)(h:makes sts j q):3≤cls E o:=by
 rcases Nat.lt_or_ge (cls E o) 3 with hlt | hge
 ·have:=(BR hL hrun hbf ho).2.1 hlt q.d q.t
  have h1:=h.1;have h2:=h.2
  omega
 ·exact hge
variable{M:Mem}{ι:Map}{w:World}
variable(hS0:fh M ι (sts 0).hp.get w)(hD0:pB ι (sts 0).hp)(hap:(oc E ops).all (Az (sts ops.size).tm)=true)(hsf:ops.toList.all (sC (sts ops.size))=true)
include hS0 hD0 hsf
theorem Kb{i:Nat}{o:Oper}(ho:ops[i]?=some o)(hc:cls E o=2)(hw:wanted ops (sts i).tm o=some true) :
 ∃ty t xo r i' j' b x n es',o.op = .store ty (.tmp t) xo∧jY E o=some t∧cU (sts i).tm t = .ptr r i' j'∧(sts i).hp.get r=some b∧b.arr=false∧b.jb=false∧aZ (sts i).tm xo=some x∧aU E.P ty=some n ∧
  x.cells.length=n∧x.cells.all AV.one=true∧fb b.es i' j' x.cells=some es'∧(sts (i+1)).hp=(sts i).hp.put r (some { b with es:=es'})∧dq nt (sts i).tm o.dst AV.undef=some (sts (i+1)).tm:=by
 have hi:i<ops.size:=(Array.getElem?_eq_some_iff.1 ho).1
 obtain⟨ty,t,xo,hop,hs⟩:=KT hc
 obtain⟨y,hW,hx⟩:=BU hop (hrun i o ho) hw
 obtain⟨t',ht',hst⟩:=hL.stay i o ho (by omega) (by omega) (oK hs)
 rw[hs]at ht';cases ht'
 have hslot:=Fk hrun (Nat.le_of_lt hi) (Nat.le_refl ops.size) hst
 have hsf':=List.all_eq_true.1 hsf o (List.mem_of_getElem? (i:=i) (by simpa using ho))
 unfold sC at hsf'
 rw[hop]at hsf'
 simp only[hslot]at hsf'
 have hW':=hW
 unfold aT at hW
 split at hW
 ·rename_i r' i' j' x' n e1 e2 hn
  simp only[Option.some.injEq]at e1
  rw[e1]at hsf'
  simp only at hsf'
  split at hW
  ·rename_i b hb
   obtain⟨⟨hxn,hx1,hfr⟩,hW⟩:=Option.ite_none_right_eq_some.1 hW
   have harr:b.arr=false:=by
    split at hsf'
    ·rename_i b' hb'
     rw[←WW hL hrun hbf hS0 hD0 hb (Nat.le_of_lt hi) (Nat.le_refl _) b' hb']
     simpa using hsf'
    ·cases hsf'
   rw[if_neg (by simp[harr])]at hW
   simp only[Option.map_eq_some_iff]at hW
   obtain⟨es',hes,hW⟩:=hW
   injection hW with h1 h2
   subst h1
   exact⟨ty,t,xo,r',i',j',b,x',n,es',hop,hs,e1,hb,harr,hfr,e2,hn,hxn,hx1,hes,h2.symm,hx⟩
  ·cases hW
 ·cases hW
theorem BQ{j:Nat}{o:Oper}(ho:ops[j]?=some o){q:Ref}(h:turns sts j q):makes sts j q∨(cls E o=2∨cls E o=4) ∧∃t,jY E o=some t∧gJ (cU (sts j).tm t)=some q:=by
 by_cases hc:cls E o=2
 ·cases hw:wanted ops (sts j).tm o with
  | none=>have:=hrun j o ho;unfold evalOp at this;rw[hw]at this;cases this
  | some b =>
   cases b with
   | false =>
    have:=hrun j o ho;unfold evalOp at this;rw[hw]at this
    simp only[Option.map_eq_some_iff]at this
    obtain⟨tm',_,e⟩:=this
    unfold turns at h
    rw[←e]at h
    exact absurd rfl h
   | true =>
    obtain⟨ty,t,xo,r,i',j',b,x,n,es',hop,hs,ht,hb,_,_,_,_,_,_,_,he,_⟩:=Kb hL hrun hbf hS0 hD0 hsf ho hc hw
    refine .inr ⟨.inl hc,t,hs,?_⟩
    unfold turns at h
    rw[he,ab.get_put]at h
    split at h
    ·rename_i e;subst e;rw[ht];rfl
    ·exact absurd rfl h
 ·rcases(BR hL hrun hbf ho).2.2 hc q h with h1 | ⟨h1,h2⟩
  ·exact .inl h1
  ·exact .inr ⟨.inr h1,h2⟩
omit hrun hS0 hD0 hsf hL hbf in
theorem NV{L:Nat→Bool}(hc:Closed ops L){i:Nat}{o:Oper}(ho:ops[i]?=some o)(hi:L i=false)(hed : ∀e∈ep o,L e=true){j:Nat}{oj:Oper}(hoj:ops[j]?=some oj)
 (h:j<i→((dy ops.toList []).getD i 0).testBit j=true) (h':i<j→((dy ops.toList []).getD j 0).testBit i=true):(L j=true↔j<i):=by
 constructor
 ·intro hj
  rcases Nat.lt_trichotomy j i with hlt | rfl | hlt
  ·exact hlt
  ·rw[hi]at hj;cases hj
  ·have:=qH hc j oj hoj (fun e he=>hc j oj hj hoj e he) i (h' hlt)
   rw[hi]at this;cases this
 ·intro hlt
  exact qH hc i o ho hed j (h hlt)
omit hS0 hD0 hsf hbf in
include hap in
theorem NU{L:Nat→Bool}(hc:Closed ops L){i:Nat}{o:Oper}(ho:ops[i]?=some o)(hi:L i=false)(hed : ∀e∈ep o,L e=true)(hci:cls E o=1∨cls E o=2){t:Tmp}(ht:jY E o=some t){q:Ref}(hq:gJ (cU (sts i).tm t)=some q)
 {j:Nat} {oj:Oper} (hoj:ops[j]?=some oj) (hcj:cls E oj=2∨cls E oj=4) {t':Tmp} (ht':jY E oj=some t') (hq':gJ (cU (sts j).tm t')=some q):(L j=true↔j<i):=by
 have hil:i<ops.size:=(Array.getElem?_eq_some_iff.1 ho).1
 have hjl:j<ops.size:=(Array.getElem?_eq_some_iff.1 hoj).1
 obtain⟨t1,h1,s1⟩:=hL.stay i o ho (by omega) (by omega) (oK ht)
 obtain⟨t2,h2,s2⟩:=hL.stay j oj hoj (by omega) (by omega) (oK ht')
 rw[ht]at h1;cases h1
 rw[ht']at h2;cases h2
 have e1:=Fk hrun (Nat.le_of_lt hil) (Nat.le_refl ops.size) s1
 have e2:=Fk hrun (Nat.le_of_lt hjl) (Nat.le_refl ops.size) s2
 rw[←e1]at hq
 rw[←e2]at hq'
 have no : ∀a b,jY E a=some t→jY E b=some t' →¬(settled E ops a b=true):=by
  intro a b ha hb hs
  unfold settled at hs
  rw[ha,hb]at hs
  simp only[Bool.or_eq_true,List.contains_iff_mem]at hs
  have hap':=List.all_eq_true.1 hap
  rcases hs with hs | hs
  ·have:=hap' _ hs
   unfold Az at this
   simp only[hq,hq']at this
   simp at this
  ·have:=hap' _ hs
   unfold Az at this
   simp only[hq,hq']at this
   simp at this
 have no' : ∀a b,jY E a=some t'→jY E b=some t →¬(settled E ops a b=true):=by
  intro a b ha hb hs
  unfold settled at hs
  rw[ha,hb]at hs
  simp only[Bool.or_eq_true,List.contains_iff_mem]at hs
  have hap':=List.all_eq_true.1 hap
  rcases hs with hs | hs
  ·have:=hap' _ hs
   unfold Az at this
   simp only[hq,hq']at this
   simp at this
  ·have:=hap' _ hs
   unfold Az at this
   simp only[hq,hq']at this
   simp at this
 refine NV hc ho hi hed hoj (fun hlt=>?_) (fun hlt=>?_)
 ·by_cases hm:yG (cls E o) (cls E oj)=true
  ·rcases hL.meet i j o oj ho hoj hlt hm (oK ht) (oK ht')with h | h
   ·exact h
   ·exact absurd h (no o oj ht ht')
  ·refine hL.must i j o oj ho hoj hlt ?_
   unfold m5 blind
   rcases hci with hci | hci<;>rcases hcj with hcj | hcj<;>rw[hci,hcj]at hm ⊢ <;> first | rfl | exact absurd rfl hm
 ·by_cases hm:yG (cls E oj) (cls E o)=true
  ·rcases hL.meet j i oj o hoj ho hlt hm (oK ht') (oK ht)with h | h
   ·exact h
   ·exact absurd h (no' oj o ht' ht)
  ·refine hL.must j i oj o hoj ho hlt ?_
   unfold m5 blind
   rcases hci with hci | hci<;>rcases hcj with hcj | hcj<;>rw[hci,hcj]at hm ⊢ <;> first | rfl | exact absurd rfl hm
omit hrun hS0 hD0 hsf hbf in
theorem pe{L:Nat→Bool}(hc:Closed ops L){i:Nat}{o:Oper}(ho:ops[i]?=some o)(hi:L i=false)(hed : ∀e∈ep o,L e=true)(hci:3≤cls E o)
 {j:Nat} {oj:Oper} (hoj:ops[j]?=some oj) (hbl:blind E o=false∨cls E oj≠2) (hha:lT E o oj=false∧lT E oj o=false) (hcj:cls E oj=2∨cls E oj=4∨cls E o=4∧3≤cls E oj):(L j=true↔j<i):=by
 have h1:=Aj E o
 have h2:=Aj E oj
 have hm:m5 E o oj=true∧m5 E oj o=true:=by
  unfold m5
  rw[hha.1,hha.2]
  have a:cls E o=3∨cls E o=4:=by omega
  rcases hcj with hcj | hcj | ⟨hc4,hcj⟩
  ·have hb:=hbl.resolve_right (fun h=>h hcj)
   rcases a with a | a<;>rw[a,hcj,hb]<;>exact⟨rfl,rfl⟩
  ·rcases a with a | a<;>rw[a,hcj]<;>simp
  ·have b:cls E oj=3∨cls E oj=4:=by omega
   rcases b with b | b<;>rw[hc4,b]<;>simp
 exact NV hc ho hi hed hoj (fun hlt=>hL.must i j o oj ho hoj hlt hm.1) (fun hlt=>hL.must j i oj o hoj ho hlt hm.2)
end
end Go.Ab
namespace Go.Ab
section
variable{E:Env}{pc:FuncId→List AV→Option AV}{tc:sn→List AV→ab→dz}{nt dep:Nat}{ops:Array Oper}{sts:Nat→St}
variable(hL:Uo E ops)(hrun : ∀i o,ops[i]?=some o→evalOp E pc tc nt dep true ops o (sts i)=some (sts (i+1)))
variable{M:Mem}{ι:Map}{w:World}{ds:List Deferred}
structure Pe (E:Env) (ops:Array Oper) (sts:Nat→St) (M:Mem) (ι:Map) (w:World) (L:Nat→Bool) (M1:Mem) (ι1:Map) (g1:dk) (c:Nat) (w1:World):Prop where
 sim:fh M1 ι1 g1 w1
 fwd:pA M ι (sts 0).hp.get w M1 ι1 g1 w1
 le:c≤ops.size
 cut : ∀j o,j<c→ops[j]?=some o→3≤cls E o→L j=true
 hand : ∀q,ι1 q≠none→q.g<(sts c).hp.gen q.d q.t ∨∃j,j<ops.size∧L j=true∧c≤j∧makes sts j q
 get : ∀q,∃n,n≤ops.size∧g1 q=(sts n).hp.get q ∧∀j,j<ops.size→turns sts j q→(L j=true↔j<n)
structure Pf (E:Env) (nt:Nat) (ops:Array Oper) (sts:Nat→St) (M:Mem) (ι:Map) (w:World) (ds:List Deferred) (L:Nat→Bool) (a1:Act) (w1:World):Prop where
 closed:Closed ops L
 defers:a1.defers=ds
 at_ : ∃M1 ι1 tm1 g1 c,TS ops sts L tm1∧TR M1 ι1 tm1 a1∧a1.tmps.size=nt∧Pe E ops sts M ι w L M1 ι1 g1 c w1
theorem wK{a b:Nat}{q:Ref}(h:a≤b)(hno : ∀j,a≤j→j<b →¬turns sts j q):(sts b).hp.get q=(sts a).hp.get q:=by
 induction b with
 | zero=>rw[Nat.le_zero.1 h]
 | succ b ih =>
  rcases Nat.lt_or_ge b a with hlt | hge
  ·rw[show a=b+1 by omega]
  ·have:=hno b hge (Nat.lt_succ_self b)
   unfold turns at this
   rw[Classical.not_not.1 this]
   exact ih hge fun j h1 h2=>hno j h1 (by omega)
theorem Pe.Iw{L:Nat→Bool}{M1:Mem}{ι1:Map}{g1:dk}{c:Nat}{w1:World}(h:Pe E ops sts M ι w L M1 ι1 g1 c w1){q:Ref}{i:Nat}(hi:i≤ops.size)(hq : ∀j,j<ops.size→turns sts j q→(L j=true↔j<i)):g1 q=(sts i).hp.get q:=by
 obtain⟨n,hn,e,hj⟩:=h.get q
 rw[e]
 rcases Nat.le_total n i with hle | hle
 ·exact(wK hle fun j h1 h2 ht=>by
   have a:=hj j (by omega) ht
   have b:=hq j (by omega) ht
   have:=a.1 (b.2 h2)
   omega).symm
 ·exact wK hle fun j h1 h2 ht=>by
   have a:=hj j (by omega) ht
   have b:=hq j (by omega) ht
   have:=b.1 (a.2 h2)
   omega
variable(hbf:ops.toList.all (C8 E (sts ops.size))=true)
include hL hrun hbf
theorem yH{L:Nat→Bool}{M1:Mem}{ι1:Map}{g1:dk}{c:Nat}{w1:World}(hS0:fh M ι (sts 0).hp.get w)(hD0:pB ι (sts 0).hp)(h:Pe E ops sts M ι w L M1 ι1 g1 c w1){i:Nat}(hil:i<ops.size)(hi:L i=false){q:Ref}
 (hq:(sts i).hp.get q≠none) (hh:ι1 q≠none) {j:Nat} (hj:j<ops.size) (hm:makes sts j q):(L j=true↔j<i):=by
 constructor
 ·intro hjL
  rcases Nat.lt_or_ge j i with hlt | hge
  ·exact hlt
  ·have h1:=IS hL hrun hbf hS0 hD0 (Nat.le_of_lt hil) q hq
   have h2:=oC hL hrun hbf hge (Nat.le_of_lt hj) q.d q.t
   have:=hm.1
   omega
 ·intro hlt
  rcases h.hand q hh with h1 | ⟨j',hj',hjL,_,hm'⟩
  ·have hjc:j<c:=by
    rcases Nat.lt_or_ge j c with h2 | h2
    ·exact h2
    ·have:=oC hL hrun hbf h2 (Nat.le_of_lt hj) q.d q.t
     have:=hm.1
     omega
   exact h.cut j _ hjc (Array.getElem?_eq_getElem hj) (u9 hL hrun hbf (Array.getElem?_eq_getElem hj) hm)
  ·rw[zS hL hrun hbf hj hj' hm hm'];exact hjL
variable(hS0:fh M ι (sts 0).hp.get w)(hD0:pB ι (sts 0).hp)(hap:(oc E ops).all (Az (sts ops.size).tm)=true)(hsf:ops.toList.all (sC (sts ops.size))=true)
include hS0 hD0 hap hsf
theorem El{L:Nat→Bool}(hc:Closed ops L){M1:Mem}{ι1:Map}{g1:dk}{c:Nat}{w1:World}(h:Pe E ops sts M ι w L M1 ι1 g1 c w1){i:Nat}{o:Oper}(ho:ops[i]?=some o)(hi:L i=false)(hed : ∀e∈ep o,L e=true)
 (hci:cls E o=1∨cls E o=2) {t:Tmp} (ht:jY E o=some t) {q:Ref} (hq:gJ (cU (sts i).tm t)=some q) (hlive:(sts i).hp.get q≠none) (hh:ι1 q≠none) :
 g1 q=(sts i).hp.get q ∧∀j,j<ops.size→turns sts j q→(L j=true↔j<i):=by
 have hil:i<ops.size:=(Array.getElem?_eq_some_iff.1 ho).1
 have key : ∀j,j<ops.size→turns sts j q→(L j=true↔j<i):=by
  intro j hj hT
  have hoj:=Array.getElem?_eq_getElem hj
  rcases BQ hL hrun hbf hS0 hD0 hsf hoj hT with hm | ⟨hcj,t',ht',hq'⟩
  ·exact yH hL hrun hbf hS0 hD0 h hil hi hlive hh hj hm
  ·exact NU hL hrun hap hc ho hi hed hci ht hq hoj hcj ht' hq'
 exact⟨h.Iw (Nat.le_of_lt hil) key,key⟩
theorem L0(hpc : ∀f xs y,pc f xs=some y→iL E.P f xs y)(htc : ∀f xs H y H',tc f xs H=some (y,H')→nc E.P f xs H y H'){ro:Option Nat}{Q:Exit→Act→World→Prop}
 {L L':Nat→Bool} {i:Nat} {o:Oper} (ho:ops[i]?=some o) (hi:L i=false) (hed : ∀e∈ep o,L e=true)
 (hL' : ∀j,L' j=true↔(L j=true∨j=i)) {a1:Act} {w1:World} (hI:Pf E nt ops sts M ι w ds L a1 w1) {K:Act→World→Prop} (hK : ∀a' w',Pf E nt ops sts M ι w ds L' a' w'→K a' w') :
 if Region.wanted o (yielded ops a1.tmps) then o.wpIn (FW ro) 0 E.P a1 w1 K Q else K (a1.put o.dst undef) w1:=by
 obtain⟨hc,hds,M1,ι1,tm1,g1,c,hTS,hTR,hnt,hM⟩:=hI
 have hlt:i<ops.size:=(Array.getElem?_eq_some_iff.1 ho).1
 have hc':Closed ops L':=Closed.next hc ho hed hL'
 have hlook : ∀t∈o.looksAt ops,cU tm1 t=cU (sts i).tm t:=fun t ht=>B2 hL.toRegB hrun hc ho hi hed hTS ht
 have hag:=vq hlook
 have hwd:=ti hlook
 have step:=hrun i o ho
 have hle4:=Aj E o
 have fin : ∀(u:Value)(x:AV)(tm1':List AV)(w':World)(M':Mem)(ι':Map),(sts (i+1)).hp=(sts i).hp→dq nt (sts i).tm o.dst x=some (sts (i+1)).tm→dq nt tm1 o.dst x=some tm1' →
  TR M' ι' tm1' (a1.put o.dst u)→(a1.put o.dst u).tmps.size=nt→fh M' ι' g1 w'→pA M1 ι1 g1 w1 M' ι' g1 w'→(∀q,ι' q≠none→ι1 q≠none)→Pf E nt ops sts M ι w ds L' (a1.put o.dst u) w':=by
  intro u x tm1' w' M' ι' hsame hx hx' htr hn hS' hF' hι
  refine⟨hc',(put_defers _ _ _).trans hds,M',ι',tm1',g1,c,pN hL.toRegB ho hL' hi hTS hx hx',htr,hn,hS',hM.fwd.trans hF',hM.le,fun j oj hj hoj hcj=>(hL' j).2 (.inl (hM.cut j oj hj hoj hcj)),fun q hq=>?_,fun q=>?_⟩
  ·rcases hM.hand q (hι q hq)with h | ⟨j,h1,h2,h3,h4⟩
   ·exact .inl h
   ·exact .inr ⟨j,h1,(hL' j).2 (.inl h2),h3,h4⟩
  ·obtain⟨n,h1,h2,h3⟩:=hM.get q
   refine⟨n,h1,h2,fun j hj hT=>?_⟩
   have hji:j≠i:=by intro e;subst e;exact hT (by rw[hsame])
   rw[←h3 j hj hT,hL' j]
   simp[hji]
 have hkeyfree : ∀k:Nat,ι1 { (⟨dep+1,0,(sts ops.size).hp.gen (dep+1) 0,0⟩:Ref)with k:=k}=none:=by
  intro k
  cases hq:ι1 { (⟨dep+1,0,(sts ops.size).hp.gen (dep+1) 0,0⟩:Ref)with k:=k} with
  | none=>rfl
  | some l =>
   exfalso
   rcases hM.hand _ (by rw[hq];simp)with h | ⟨j,h1,_,_,h4⟩
   ·have:=oC hL hrun hbf hM.le (Nat.le_refl _) (dep+1) 0
    simp only at h
    omega
   ·have:=oC hL hrun hbf (show j+1≤ops.size from h1) (Nat.le_refl _) (dep+1) 0
    have:=h4.2
    simp only at this
    omega
 have quiet : ∀ {x:AV} {tm':List AV},(sts (i+1)).hp=(sts i).hp→dq nt (sts i).tm o.dst x=some (sts (i+1)).tm →
  cB E pc true g1 tm1 ⟨dep+1,0,(sts ops.size).hp.gen (dep+1) 0,0⟩ o=some (x,[])→o.wpIn (FW ro) 0 E.P a1 w1 K Q:=by
  intro x tm' hsame hx hq
  obtain⟨tm1',hx'⟩:=jh (tm1:=tm1) hx
  refine sO (E:=E) (o:=o) hM.sim hTR rfl hkeyfree hpc (fun h=>by cases h) hq ro K Q fun u w' ⟨M',ι',h1,h2,h3,h4⟩=>hK _ _ ?_
  rw[kR]at h2 h3
  obtain⟨h5,h6⟩:=(hTR.mono h3.mem h3.map).put hnt hx' h1
  refine fin u x tm1' w' M' ι' hsame hx hx' h5 h6 h2 h3 fun q hq hn=>hq (h4 q hn (fun k hk=>by simp at hk))
 have hno:wanted ops (sts i).tm o=some false→if Region.wanted o (yielded ops a1.tmps) then o.wpIn (FW ro) 0 E.P a1 w1 K Q else K (a1.put o.dst undef) w1:=by
  intro hw
  have hw1:=hw
  rw[←hwd]at hw1
  rw[iZ hTR hw1]
  simp only[Bool.false_eq_true,if_false]
  unfold evalOp at step
  rw[hw]at step
  simp only[Option.map_eq_some_iff]at step
  obtain⟨tm',ht,he⟩:=step
  have hx:dq nt (sts i).tm o.dst AV.undef=some (sts (i+1)).tm:=by rw[←he];exact ht
  obtain⟨tm1',hx'⟩:=jh (tm1:=tm1) hx
  obtain⟨h1,h2⟩:=hTR.put hnt hx' (u:=undef) (.v rfl)
  exact hK _ _ (fin undef AV.undef tm1' w1 M1 ι1 (by rw[←he]) hx hx' h1 h2 hM.sim pA.refl fun _ h=>h)
 have maker : ∀ {d:Nat} {x:AV} {bs:List bN},3≤cls E o→(sts (i+1)).hp=keyed ⟨dep,d,(sts i).hp.gen dep d,0⟩ 0 bs (sts i).hp→dq nt (sts i).tm o.dst x=some (sts (i+1)).tm →
  cB E pc true g1 tm1 ⟨dep,d,(sts i).hp.gen dep d,0⟩ o=some (x,bs)→(∀k,ι1 { (⟨dep,d,(sts i).hp.gen dep d,0⟩:Ref)with k:=k}=none)→o.wpIn (FW ro) 0 E.P a1 w1 K Q:=by
  intro d x bs hcl hhp hx hq' hfree
  obtain⟨tm1',hx'⟩:=jh (tm1:=tm1) hx
  refine sO (E:=E) (o:=o) hM.sim hTR rfl hfree hpc (fun h=>by cases h) hq' ro K Q fun u w' ⟨M',ι',h1,h2,h3,h4⟩=>hK _ _ ?_
  obtain⟨h5,h6⟩:=(hTR.mono h3.mem h3.map).put hnt hx' h1
  refine⟨hc',(put_defers _ _ _).trans hds,M',ι',tm1',oV g1 ⟨dep,d,(sts i).hp.gen dep d,0⟩ bs,c,pN hL.toRegB ho hL' hi hTS hx hx',h5,h6,h2,hM.fwd.trans h3,hM.le,fun j oj hj hoj hcj=>(hL' j).2 (.inl (hM.cut j oj hj hoj hcj)),fun q hq=>?_,fun q=>?_⟩
  ·by_cases hq1:ι1 q=none
   ·by_cases hk : ∃k,k<bs.length∧q = { (⟨dep,d,(sts i).hp.gen dep d,0⟩:Ref)with k:=k}
    ·obtain⟨k,hk,e⟩:=hk
     refine .inr ⟨i,hlt,(hL' i).2 (.inr rfl),?_,?_⟩
     ·rcases Nat.lt_or_ge i c with hic | hic
      ·have:=hM.cut i o hic ho (by omega)
       rw[hi]at this;cases this
      ·exact hic
     ·subst e
      refine⟨Nat.le_refl _,?_⟩
      simp only
      rw[hhp,ab.ja,if_pos ⟨rfl,rfl,by intro e;rw[e]at hk;simp at hk⟩]
      exact Nat.lt_succ_self _
    ·exact absurd (h4 q hq1 fun k hk' e=>hk ⟨k,hk',e⟩) hq
   ·rcases hM.hand q hq1 with h | ⟨j,g1',g2,g3,g4⟩
    ·exact .inl h
    ·exact .inr ⟨j,g1',(hL' j).2 (.inl g2),g3,g4⟩
  ·by_cases hk:q.d=dep∧q.t=d∧q.g=(sts i).hp.gen dep d∧q.k<bs.length
   ·have hmk:makes sts i q:=by
     obtain⟨k1,k2,k3,k4⟩:=hk
     refine⟨by rw[k1,k2,k3];exact Nat.le_refl _,?_⟩
     rw[hhp,ab.ja,if_pos ⟨k1,k2,by intro e;rw[e]at k4;simp at k4⟩,k3]
     exact Nat.lt_succ_self _
    refine⟨i+1,hlt,?_,fun j hj hT=>?_⟩
    ·rw[hhp,ab.ju]
     unfold oV
     rw[if_pos hk,if_pos hk]
    ·rw[hL' j]
     by_cases hji:j=i
     ·subst hji;simp
     ·have hoj:=Array.getElem?_eq_getElem hj
      have hturn:turns sts i q:=by
       obtain⟨k1,k2,k3,k4⟩:=hk
       intro e
       have h5:(sts i).hp.get q≠none:=by
        rw[←e,hhp,ab.ju]
        unfold oV
        rw[if_pos ⟨k1,k2,k3,k4⟩,List.getElem?_eq_getElem k4]
        simp
       have:=IS hL hrun hbf hS0 hD0 (Nat.le_of_lt hlt) q h5
       rw[k1,k2,k3]at this
       exact absurd this (Nat.lt_irrefl _)
      have hnot : ¬j<i:=by
       intro hji'
       obtain⟨k1,k2,k3,k4⟩:=hk
       have hlive : ∀m,m≤i→(sts m).hp.get q≠none→False:=by
        intro m hm hne
        have h6:=IS hL hrun hbf hS0 hD0 (Nat.le_trans hm (Nat.le_of_lt hlt)) q hne
        have h7:=oC hL hrun hbf hm (Nat.le_of_lt hlt) q.d q.t
        rw[k1,k2]at h6 h7
        rw[k3]at h6
        omega
       by_cases h8:(sts j).hp.get q=none
       ·exact hlive (j+1) hji' (fun h9=>hT (by rw[h8,h9]))
       ·exact hlive j (Nat.le_of_lt hji') h8
      have:(L j=true↔j<i):=by
       obtain⟨n',k1,k2,k3⟩:=hM.get q
       have h9:=k3 i hlt hturn
       rw[hi]at h9
       have h10:=k3 j hj hT
       rw[h10]
       constructor
       ·intro h11
        have : ¬i<n':=fun h=>by simpa using h9.2 h
        omega
       ·intro h11;exact absurd h11 hnot
      rw[this]
      constructor
      ·rintro(h | h)
       ·omega
       ·exact absurd h hji
      ·intro h;left;omega
   ·obtain⟨n',k1,k2,k3⟩:=hM.get q
    refine⟨n',k1,?_,fun j hj hT=>?_⟩
    ·unfold oV;rw[if_neg hk];exact k2
    ·have hji:j≠i:=by
      intro e;subst e
      refine hT ?_
      rw[hhp,ab.ju]
      unfold oV
      rw[if_neg hk]
     rw[←k3 j hj hT,hL' j]
     simp[hji]
 cases hwt:wanted ops (sts i).tm o with
 | none=>unfold evalOp at step;rw[hwt]at step;cases step
 | some b =>
 cases b with
 | false=>exact hno hwt
 | true =>
 have hw1:=hwt
 rw[←hwd]at hw1
 have hcs:cls E o=0∨cls E o=1∨cls E o=2∨cls E o=3∨cls E o=4:=by omega
 rcases hcs with hcl | hcl | hcl | hcl | hcl
 ·
  rw[iZ hTR hw1]
  simp only[if_true]
  have hh:=C5 hcl
  rcases lG step with ⟨hw,_,_,_⟩ | ⟨hw,x,bs,hq,tm',ht,he⟩ | hwk
  ·rw[hwt]at hw;cases hw
  ·obtain⟨hbs,hall⟩:=sH hh hq
   subst hbs
   exact quiet (tm':=tm') (vY (.inl hcl) step) (by rw[he];exact ht) (by rw[pt hag];exact hall _ _)
  ·rw[fm hwk]at hh;cases hh
 ·
  rw[iZ hTR hw1]
  simp only[if_true]
  obtain⟨t,hlt',hst,hwk⟩:=F1 hcl
  rcases lG step with ⟨hw,_,_,_⟩ | ⟨hw,x,bs,hq,tm',ht,he⟩ | hwk'
  ·rw[hwt]at hw;cases hw
  ·obtain⟨hbs,hall⟩:=Ht hlt' hq
   subst hbs
   refine quiet (tm':=tm') (vY (.inr hcl) step) (by rw[he];exact ht) ?_
   rw[pt hag]
   refine hall g1 _ fun q hrq hne=>?_
   refine(El hL hrun hbf hS0 hD0 hap hsf hc hM ho hi hed (.inl hcl) hst hrq hne ?_).1
   have ht1:cU tm1 t=cU (sts i).tm t:=by
    refine hlook t ?_
    unfold Oper.looksAt
    refine List.mem_append_left _ (List.mem_filterMap.2 ⟨.tmp t,?_,rfl⟩)
    unfold wT at hlt'
    split at hlt'
    ·rename_i hop;cases hlt';rw[hop];simp[Op.operands]
    ·rename_i hop;cases hlt';rw[hop];simp[Op.operands]
    ·rename_i hop;cases hlt';rw[hop];simp[Op.operands]
    ·rename_i hop
     split at hlt'
     ·cases hlt'
     ·cases hlt';rw[hop];simp[Op.operands]
    ·rename_i hop;cases hlt';rw[hop];simp[Op.operands]
    ·rename_i c hop
     split at hlt'
     ·split at hlt'
      ·rename_i hargs
       cases hlt'
       rw[hop]
       have:(Operand.tmp t)∈c.args:=by rw[←Array.mem_toList_iff,hargs];simp
       simp only[Op.operands,Call.operands]
       simp[this]
      ·cases hlt'
     ·cases hlt'
    ·cases hlt'
   have hv:=hTR.at_ t
   rw[ht1]at hv
   revert hrq hv
   generalize cU (sts i).tm t=v
   generalize a1.tmps.getD t undef=u
   intro hrq hv
   cases hv with
   | ptr hr hzl=>cases hrq;rw[hr];simp
   | cM hr=>cases hrq;rw[hr];simp
   | mp hr=>cases hrq;rw[hr];simp
   | ch hr=>cases hrq;rw[hr];simp
   | _=>cases hrq
  ·rw[hwk]at hwk';cases hwk'
 ·
  rw[iZ hTR hw1]
  simp only[if_true]
  obtain⟨ty,t,xo,r,i',j',b,x,n,es',hop,hs,hta,hb,harr,hfr,hxo,hn,hxn,hx1,hes,he,hx⟩:=Kb hL hrun hbf hS0 hD0 hsf ho hcl hwt
  have hmem : ∀y,y = .tmp t∨y=xo→aZ tm1 y=aZ (sts i).tm y:=by
   intro y hy
   refine hag y ?_
   rw[hop]
   rcases hy with rfl | rfl<;>simp[Op.operands]
  have hpv:=bn hTR (x := .tmp t) (y := .ptr r i' j') (by rw[hmem _ (.inl rfl)];simp only[aZ,hta])
  have hxv:=bn hTR (x:=xo) (y:=x) (by rw[hmem _ (.inr rfl)];exact hxo)
  have hhand:ι1 r≠none:=by
   revert hpv
   generalize a1.eval (.tmp t)=u
   intro hpv
   cases hpv with | ptr hr hzl=>rw[hr];simp
  obtain⟨hg,hord⟩:=El hL hrun hbf hS0 hD0 hap hsf hc hM ho hi hed (.inr hcl) hs (q:=r) (by rw[hta];rfl) (by rw[hb];simp) hhand
  rw[hb]at hg
  obtain⟨w',hr,hS',hF'⟩:=GA (P:=E.P) hM.sim hn hpv hxv hg hxn hx1 hfr harr hes
  obtain⟨tm1',hx'⟩:=jh (tm1:=tm1) hx
  have hok:eC E.P o a1 w1 fun u w2=>u=undef∧w2=w':=eC.Bn (by simp[execOp,hop,hr]) ⟨rfl,rfl⟩
  refine hok ro K Q fun u w2 ⟨e1,e2⟩=>hK _ _ ?_
  subst e1;subst e2
  obtain⟨h5,h6⟩:=(hTR.mono hF'.mem hF'.map).put hnt hx' (u:=undef) (.v rfl)
  refine⟨hc',(put_defers _ _ _).trans hds,M1,ι1,tm1',iz g1 r { b with es:=es'},c,pN hL.toRegB ho hL' hi hTS hx hx',h5,h6,hS',hM.fwd.trans hF',hM.le,fun j oj hj hoj hcj=>(hL' j).2 (.inl (hM.cut j oj hj hoj hcj)),fun q hq=>?_,fun q=>?_⟩
  ·rcases hM.hand q hq with h | ⟨j,h1,h2,h3,h4⟩
   ·exact .inl h
   ·exact .inr ⟨j,h1,(hL' j).2 (.inl h2),h3,h4⟩
  ·by_cases hqr:q=r
   ·subst hqr
    refine⟨i+1,hlt,?_,fun j hj hT=>?_⟩
    ·rw[he,ab.get_put,if_pos rfl];unfold iz;rw[if_pos rfl]
    ·rw[hL' j]
     by_cases hji:j=i
     ·subst hji;simp
     ·rw[hord j hj hT]
      constructor
      ·rintro(h | h)
       ·omega
       ·exact absurd h hji
      ·intro h;left;omega
   ·obtain⟨n',h1,h2,h3⟩:=hM.get q
    refine⟨n',h1,?_,fun j hj hT=>?_⟩
    ·unfold iz;rw[if_neg hqr];exact h2
    ·have hji:j≠i:=by
      intro e;subst e
      refine hT ?_
      rw[he,ab.get_put,if_neg hqr]
     rw[←h3 j hj hT,hL' j]
     simp[hji]
 ·
  rw[iZ hTR hw1]
  simp only[if_true]
  obtain⟨hh,hwk⟩:=wz hcl
  rcases lG step with ⟨hw,_,_,_⟩ | ⟨hw,x,bs,hq,tm',ht,he⟩ | hwk'
  ·rw[hwt]at hw;cases hw
  ·obtain⟨d,hd⟩:=Option.isSome_iff_exists.1 (hL.made i o ho hcl)
   rw[hd,Option.getD_some]at hq he
   have hx:dq nt (sts i).tm o.dst x=some (sts (i+1)).tm:=by rw[he];exact ht
   obtain⟨tm1',hx'⟩:=jh (tm1:=tm1) hx
   have hhp:(sts (i+1)).hp=keyed ⟨dep,d,(sts i).hp.gen dep d,0⟩ 0 bs (sts i).hp:=by rw[he]
   have hloc:blind E o=false→zy ι1 (sts i).hp.get g1:=by
    intro hbl q b hg hne
    rw[←hg]
    refine hM.Iw (Nat.le_of_lt hlt) fun j hj hT=>?_
    have hoj:=Array.getElem?_eq_getElem hj
    rcases BQ hL hrun hbf hS0 hD0 hsf hoj hT with hm | ⟨hcj,_⟩
    ·exact yH hL hrun hbf hS0 hD0 hM hlt hi (by rw[hg];simp) hne hj hm
    ·exact pe hL hc ho hi hed (by omega) hoj (.inl hbl) ⟨L5 hbl,lS (by omega)⟩ (by omega)
   rw[←pt hag]at hq
   have hq':cB E pc true g1 tm1 ⟨dep,d,(sts i).hp.gen dep d,0⟩ o=some (x,bs):=by
    cases hbl:blind E o with
    | true=>exact OY hbl hq
    | false=>exact z8 hM.sim (hloc hbl) hTR hq
   have hfree : ∀k,ι1 { (⟨dep,d,(sts i).hp.gen dep d,0⟩:Ref)with k:=k}=none:=by
    intro k
    cases hqk:ι1 { (⟨dep,d,(sts i).hp.gen dep d,0⟩:Ref)with k:=k} with
    | none=>rfl
    | some l =>
     exfalso
     rcases hM.hand _ (by rw[hqk];simp)with h | ⟨j,h1,h2,h3,h4⟩
     ·simp only at h
      rcases Nat.lt_or_ge i c with hic | hic
      ·have:=hM.cut i o hic ho (by omega)
       rw[hi]at this;cases this
      ·have:=oC hL hrun hbf hic (Nat.le_of_lt hlt) dep d
       omega
     ·have hoj:=Array.getElem?_eq_getElem h1
      have h5:=h4.1;have h6:=h4.2
      simp only at h5 h6
      rcases Nat.lt_trichotomy j i with hji | hji | hji
      ·have:=oC hL hrun hbf (show j+1≤i from hji) (Nat.le_of_lt hlt) dep d
       omega
      ·subst hji;rw[hi]at h2;cases h2
      ·have hcj:=u9 hL hrun hbf hoj h4
       have hc4:cls E ops[j]=3∨cls E ops[j]=4:=by have:=Aj E ops[j];omega
       rcases hc4 with hc3 | hc4
       ·
        obtain⟨dj,hdj⟩:=Option.isSome_iff_exists.1 (hL.made j _ hoj hc3)
        have hstepj:=hrun j _ hoj
        have hne:d≠dj:=by
         intro e
         have:=hL.distinct i j o ops[j] d ho hoj hd (by rw[hdj,e])
         omega
        rcases lG hstepj with ⟨_,_,_,he2⟩ | ⟨_,_,bs2,_,_,_,he2⟩ | hwk2
        ·rw[he2]at h6;dsimp only at h6;omega
        ·rw[he2]at h6
         simp only[hdj,Option.getD_some]at h6
         rw[ab.ja,if_neg (by intro hcc;exact hne hcc.2.1)]at h6
         omega
        ·rw[(wz hc3).2]at hwk2;cases hwk2
       ·cases hha:lT E o ops[j] with
        | true =>
         have hne:=JF (E:=E) (Bool.and_eq_true_iff.1 hha).1 hq
         have hmk:makes sts i { (⟨dep,d,(sts i).hp.gen dep d,0⟩:Ref)with k:=k}:=⟨Nat.le_refl _,by
          simp only
          rw[hhp,ab.ja,if_pos ⟨rfl,rfl,hne⟩]
          exact Nat.lt_succ_self _⟩
         have:=zS hL hrun hbf h1 hlt h4 hmk
         omega
        | false =>
         have:=(pe hL hc ho hi hed (by omega) hoj (.inr (by omega)) ⟨hha,lS (by omega)⟩ (.inr (.inl hc4))).1 h2
         omega
   exact maker (by omega) hhp hx hq' hfree
  ·rw[hwk]at hwk';cases hwk'
 ·
  have hb4:blind E o=false:=by unfold blind;rw[hcl];rfl
  cases hat:((Dd o.op).isSome&&o.dst.isSome) with
  | true =>
   rw[iZ hTR hw1]
   simp only[if_true]
   obtain⟨hat1,hat2⟩:=Bool.and_eq_true_iff.1 hat
   obtain⟨t,ht⟩:=Option.isSome_iff_exists.1 hat1
   obtain⟨d,hd⟩:=Option.isSome_iff_exists.1 hat2
   have hloc:zy ι1 (sts i).hp.get g1:=by
    intro q b hg hne
    rw[←hg]
    refine hM.Iw (Nat.le_of_lt hlt) fun j hj hT=>?_
    have hoj:=Array.getElem?_eq_getElem hj
    rcases BQ hL hrun hbf hS0 hD0 hsf hoj hT with hm | ⟨hcj,_⟩
    ·exact yH hL hrun hbf hS0 hD0 hM hlt hi (by rw[hg];simp) hne hj hm
    ·exact pe hL hc ho hi hed (by omega) hoj (.inl hb4) ⟨lS (by omega),lS (by omega)⟩ (by omega)
   rcases La ht hwt step with ⟨x,bs,tm',hq,hx,he⟩ | ⟨c',y,z,x,hop,hcal,hargs,hA,hy,hx⟩
   ·rw[hd,Option.getD_some]at hq he
    have hx2:dq nt (sts i).tm o.dst x=some (sts (i+1)).tm:=by rw[he];exact hx
    have hhp:(sts (i+1)).hp=keyed ⟨dep,d,(sts i).hp.gen dep d,0⟩ 0 bs (sts i).hp:=by rw[he]
    rw[←pt hag]at hq
    refine maker (by omega) hhp hx2 (z8 hM.sim hloc hTR hq) fun k=>?_
    cases hqk:ι1 { (⟨dep,d,(sts i).hp.gen dep d,0⟩:Ref)with k:=k} with
    | none=>rfl
    | some l =>
     exfalso
     rcases hM.hand _ (by rw[hqk];simp)with h | ⟨j,h1,h2,h3,h4⟩
     ·simp only at h
      rcases Nat.lt_or_ge i c with hic | hic
      ·have:=hM.cut i o hic ho (by omega)
       rw[hi]at this;cases this
      ·have:=oC hL hrun hbf hic (Nat.le_of_lt hlt) dep d
       omega
     ·have hoj:=Array.getElem?_eq_getElem h1
      have h5:=h4.1;have h6:=h4.2
      simp only at h5 h6
      rcases Nat.lt_trichotomy j i with hji | hji | hji
      ·have:=oC hL hrun hbf (show j+1≤i from hji) (Nat.le_of_lt hlt) dep d
       omega
      ·subst hji;rw[hi]at h2;cases h2
      ·have hcj:=u9 hL hrun hbf hoj h4
       have hc4:cls E ops[j]=3∨cls E ops[j]=4:=by have:=Aj E ops[j];omega
       rcases hc4 with hc3 | hc4
       ·obtain⟨dj,hdj⟩:=Option.isSome_iff_exists.1 (hL.made j _ hoj hc3)
        have hstepj:=hrun j _ hoj
        have hne:d≠dj:=by
         intro e
         have:=hL.distinct i j o ops[j] d ho hoj hd (by rw[hdj,e])
         omega
        rcases lG hstepj with ⟨_,_,_,he2⟩ | ⟨_,_,bs2,_,_,_,he2⟩ | hwk2
        ·rw[he2]at h6;dsimp only at h6;omega
        ·rw[he2]at h6
         simp only[hdj,Option.getD_some]at h6
         rw[ab.ja,if_neg (by intro hcc;exact hne hcc.2.1)]at h6
         omega
        ·rw[(wz hc3).2]at hwk2;cases hwk2
       ·have:=(pe hL hc ho hi hed (by omega) hoj (.inr (by omega)) ⟨lS (by omega),lS (by omega)⟩ (.inr (.inl hc4))).1 h2
        omega
   ·
    have hmapM:c'.args.toList.mapM (aZ tm1)=some [y,z]:=by
     rw[←hargs]
     refine mapM_congr fun a ha=>hag a ?_
     rw[hop]
     have:a∈c'.args:=by simpa using ha
     simp[Op.operands,Call.operands,this]
    have hvs:=kV hTR hmapM
    obtain⟨u,v,hu1⟩:=uK hvs.1.symm
    rw[hu1]at hvs
    have vy:=hvs.2 0 y u rfl rfl
    have vz:=hvs.2 1 z v rfl rfl
    have hnew0 : ∀r',gJ y=some r'→(sts i).hp.get r'≠none→makes sts i ⟨r'.d,r'.t,(sts i).hp.gen r'.d r'.t,0⟩:=by
     intro r' hr' hne
     obtain⟨r2,b2,z2,es2,f2,e1,e2,e3,e4⟩:=wH hA
     rw[hr']at e1;cases e1
     refine⟨Nat.le_refl _,?_⟩
     simp only
     rw[e4,Gb (by rw[e2];rfl),if_pos ⟨rfl,rfl⟩]
     exact Nat.lt_succ_self _
    have hrefs : ∀r',gJ y=some r'→ι1 r'≠none:=by
     intro r' hr'
     revert vy hr'
     generalize y=v
     intro vy hr'
     cases vy with
     | ptr hr hzl=>cases hr';rw[hr];simp
     | cM hr=>cases hr';rw[hr];simp
     | mp hr=>cases hr';rw[hr];simp
     | ch hr=>cases hr';rw[hr];simp
     | _=>cases hr'
    obtain⟨r',b,k',e1,e2,hqr,e3,u',w',ι',hr',hv',hS',hF',hι'⟩:=Gm (P:=E.P) (ty:=o.type) (H:=(sts i).hp) hM.sim vy vz (fun r' hr' hne=>by
     cases hb:(sts i).hp.get r' with
     | none=>exact absurd hb hne
     | some b=>exact hloc r' b hb (hrefs r' hr')) (fun e p hp=>EG hloc vz hp) (fun r' hr' hne=>by
     cases hqk:ι1 ⟨r'.d,r'.t,(sts i).hp.gen r'.d r'.t,0⟩ with
     | none=>rfl
     | some l =>
      exfalso
      rcases hM.hand _ (by rw[hqk];simp)with h | ⟨j,h1,h2,h3,h4⟩
      ·simp only at h
       rcases Nat.lt_or_ge i c with hic | hic
       ·have:=hM.cut i o hic ho (by omega)
        rw[hi]at this;cases this
       ·have:=oC hL hrun hbf hic (Nat.le_of_lt hlt) r'.d r'.t
        omega
      ·have:=zS hL hrun hbf h1 hlt h4 (hnew0 r' hr' hne)
       subst this
       rw[hi]at h2;cases h2) hA
    have hmk:=hnew0 r' e1 (by rw[e2];simp)
    obtain⟨tm1',hx'⟩:=jh (tm1:=tm1) hx
    have hok:eC E.P o a1 w1 fun u2 w2=>u2=u'∧w2=w':=by
     refine eC.of_run ?_ ⟨rfl,rfl⟩
     have hsame:c'.args.map a1.eval = #[u,v]:=by
      apply Array.toList_inj.1
      rw[Array.toList_map,hu1]
     simp only[execOp,hop,resolve,hcal,invoke,Sem.run_bind,Sem.run_pure,Result.andThen_ok,hsame]
     show(do pure (Next.value (←Builtin.append_ c'.argTypes o.type #[u,v])):Sem Next).run E.P w1=_
     exact Ev hr'
    refine hok ro K Q fun u2 w2 ⟨f1,f2⟩=>hK _ _ ?_
    subst f1;subst f2
    obtain⟨h5,h6⟩:=(hTR.mono hF'.mem hF'.map).put hnt hx' hv'
    refine⟨hc',(put_defers _ _ _).trans hds,M1,ι',tm1',_,c,pN hL.toRegB ho hL' hi hTS hx hx',h5,h6,hS',hM.fwd.trans hF',hM.le,fun j oj hj hoj hcj=>(hL' j).2 (.inl (hM.cut j oj hj hoj hcj)),fun q hq=>?_,fun q=>?_⟩
    ·by_cases hqq:q=⟨r'.d,r'.t,(sts i).hp.gen r'.d r'.t,0⟩
     ·refine .inr ⟨i,hlt,(hL' i).2 (.inr rfl),?_,by rw[hqq];exact hmk⟩
      rcases Nat.lt_or_ge i c with hic | hic
      ·have:=hM.cut i o hic ho (by omega)
       rw[hi]at this;cases this
      ·exact hic
     ·by_cases hq1:ι1 q=none
      ·exact absurd (hι' q hq1 hqq) hq
      ·rcases hM.hand q hq1 with h | ⟨j,g1',g2,g3,g4⟩
       ·exact .inl h
       ·exact .inr ⟨j,g1',(hL' j).2 (.inl g2),g3,g4⟩
    ·have hat3:(sts (i+1)).hp.get q=iz (oD (sts i).hp.get r') ⟨r'.d,r'.t,(sts i).hp.gen r'.d r'.t,0⟩ k' q:=by rw[e3,get_append _ _ _ _ hqr]
     by_cases hqq:q=⟨r'.d,r'.t,(sts i).hp.gen r'.d r'.t,0⟩
     ·refine⟨i+1,hlt,by rw[hat3];unfold iz;rw[if_pos hqq,if_pos hqq],fun j hj hT=>?_⟩
      rw[hL' j]
      by_cases hji:j=i
      ·subst hji;simp
      ·have hturn:turns sts i q:=by
        intro e
        have h5:(sts i).hp.get q≠none:=by
         rw[←e,hat3];unfold iz;rw[if_pos hqq];simp
        have:=IS hL hrun hbf hS0 hD0 (Nat.le_of_lt hlt) q h5
        rw[hqq]at this
        exact absurd this (Nat.lt_irrefl _)
       have hnot : ¬j<i:=by
        intro hji'
        have hlive : ∀m,m≤i→(sts m).hp.get q≠none→False:=by
         intro m hm hne
         have h6:=IS hL hrun hbf hS0 hD0 (Nat.le_trans hm (Nat.le_of_lt hlt)) q hne
         have h7:=oC hL hrun hbf hm (Nat.le_of_lt hlt) q.d q.t
         rw[hqq]at h6 h7
         simp only at h6 h7
         omega
        by_cases h8:(sts j).hp.get q=none
        ·exact hlive (j+1) hji' (fun h9=>hT (by rw[h8,h9]))
        ·exact hlive j (Nat.le_of_lt hji') h8
       have:(L j=true↔j<i):=by
        obtain⟨n',k1,k2,k3⟩:=hM.get q
        have h9:=k3 i hlt hturn
        rw[hi]at h9
        have h10:=k3 j hj hT
        rw[h10]
        constructor
        ·intro h11
         have : ¬i<n':=fun h=>by simpa using h9.2 h
         omega
        ·intro h11;exact absurd h11 hnot
       rw[this]
       constructor
       ·rintro(h | h)
        ·omega
        ·exact absurd h hji
       ·intro h;left;omega
     ·by_cases hqr2:q=r'
      ·refine⟨i+1,hlt,by rw[hat3];unfold iz oD;rw[if_neg hqq,if_neg hqq,if_pos hqr2,if_pos hqr2],fun j hj hT=>?_⟩
       rw[hL' j]
       by_cases hji:j=i
       ·subst hji;simp
       ·have hoj:=Array.getElem?_eq_getElem hj
        have:(L j=true↔j<i):=by
         rcases BQ hL hrun hbf hS0 hD0 hsf hoj hT with hm | ⟨hcj,_⟩
         ·exact yH hL hrun hbf hS0 hD0 hM hlt hi (by rw[hqr2,e2];simp) (by rw[hqr2];exact hrefs r' e1) hj hm
         ·exact pe hL hc ho hi hed (by omega) hoj (.inl hb4) ⟨lS (by omega),lS (by omega)⟩ (by omega)
        rw[this]
        constructor
        ·rintro(h | h)
         ·omega
         ·exact absurd h hji
        ·intro h;left;omega
      ·obtain⟨n',k1,k2,k3⟩:=hM.get q
       refine⟨n',k1,?_,fun j hj hT=>?_⟩
       ·unfold iz oD;rw[if_neg hqq,if_neg hqr2];exact k2
       ·have hji:j≠i:=by
         intro e;subst e
         refine hT ?_
         rw[hat3];unfold iz oD;rw[if_neg hqq,if_neg hqr2]
        rw[←k3 j hj hT,hL' j]
        simp[hji]
  | false =>
  have hha : ∀oj,lT E o oj=false∧lT E oj o=false:=fun oj=>⟨lS (by omega),L6 hat⟩
  have hall : ∀q j,j<ops.size→turns sts j q→(L j=true↔j<i):=by
   intro q j hj hT
   have hoj:=Array.getElem?_eq_getElem hj
   refine pe hL hc ho hi hed (by omega) hoj (.inl hb4) (hha _) ?_
   rcases BQ hL hrun hbf hS0 hD0 hsf hoj hT with hm | ⟨hcj,_⟩
   ·exact .inr (.inr ⟨hcl,u9 hL hrun hbf hoj hm⟩)
   ·omega
  have hg:g1=(sts i).hp.get:=funext fun q=>hM.Iw (Nat.le_of_lt hlt) (hall q)
  have hD:pB ι1 (sts i).hp:=by
   intro q l hq
   rcases hM.hand q (by rw[hq];simp)with h | ⟨j,h1,h2,h3,h4⟩
   ·rcases Nat.lt_or_ge i c with hic | hic
    ·have:=hM.cut i o hic ho (by omega)
     rw[hi]at this;cases this
    ·exact Nat.lt_of_lt_of_le h (oC hL hrun hbf hic (Nat.le_of_lt hlt) _ _)
   ·have hoj:=Array.getElem?_eq_getElem h1
    have hji:=(pe hL hc ho hi hed (by omega) hoj (.inl hb4) (hha _) (.inr (.inr ⟨hcl,u9 hL hrun hbf hoj h4⟩))).1 h2
    exact Nat.lt_of_lt_of_le h4.2 (oC hL hrun hbf (show j+1≤i from hji) (Nat.le_of_lt hlt) _ _)
  have hO:qU M1 ι1 ⟨tm1,(sts i).hp⟩ nt a1 w1:=⟨by rw[←hg];exact hM.sim,hD,hTR,hnt⟩
  obtain⟨x,tm1',hx,hx',hev⟩:=EW hlook step
  refine z9 (E:=E) (Q:=Q) hO hpc htc (fun h=>by cases h) (.inl rfl) hev fun a' w' ⟨⟨M',ι',hO',hF'⟩,hd'⟩=>hK a' w' ⟨hc',hd'.trans hds,M',ι',tm1',(sts (i+1)).hp.get,i+1,pN hL.toRegB ho hL' hi hTS hx hx',hO'.tr,hO'.nt,hO'.sim,?_,hlt,?_,?_,?_⟩
  ·have:=hM.fwd
   rw[hg]at this
   exact this.trans hF'
  ·intro j oj hj hoj hcj
   by_cases hji:j=i
   ·exact(hL' j).2 (.inr hji)
   ·exact(hL' j).2 (.inl ((pe hL hc ho hi hed (by omega) hoj (.inl hb4) (hha _) (.inr (.inr ⟨hcl,hcj⟩))).2 (by omega)))
  ·intro q hq
   cases hqq:ι' q with
   | none=>exact absurd hqq hq
   | some l=>exact .inl (hO'.dom q l hqq)
  ·intro q
   refine⟨i+1,hlt,rfl,fun j hj hT=>?_⟩
   rw[hL' j]
   by_cases hji:j=i
   ·subst hji;simp
   ·rw[hall q j hj hT]
    constructor
    ·rintro(h | h)
     ·omega
     ·exact absurd h hji
    ·intro h;left;omega
omit hS0 hD0 hap hsf in
theorem Hv{L:Nat→Bool}(hall : ∀i,i<ops.size→L i=true){a a1:Act}{w1:World}(hds:a.defers=ds)(hI:Pf E nt ops sts M ι w ds L a1 w1):iY M ι (sts 0) a w nt (sts ops.size) a1 w1:=by
 obtain⟨hc,hd1,M1,ι1,tm1,g1,c,hTS,hTR,hnt,hM⟩:=hI
 have htm : ∀t,cU tm1 t=cU (sts ops.size).tm t:=by
  intro t
  obtain⟨h1,h2⟩:=hTS t
  obtain⟨h3,h4⟩:=Fh hL.toRegB hrun ops.size (Nat.le_refl _) t
  by_cases hex : ∃j,j<ops.size∧gl ops j=some t
  ·obtain⟨j,hj,hd⟩:=hex
   rw[h1 j hj (hall j hj) hd,h3 j hj (by simpa using hj) hd]
  ·rw[h2 fun j hj _ hd=>hex ⟨j,hj,hd⟩,h4 fun j hj _ hd=>hex ⟨j,hj,hd⟩]
 have hTR':TR M1 ι1 (sts ops.size).tm a1:=⟨fun t=>by rw[←htm];exact hTR.at_ t⟩
 have hg:g1=(sts ops.size).hp.get:=funext fun q=>hM.Iw (Nat.le_refl _) fun j hj _=>⟨fun _=>hj,fun _=>hall j hj⟩
 refine⟨⟨M1,ι1,⟨by rw[←hg];exact hM.sim,?_,hTR',hnt⟩,by rw[←hg];exact hM.fwd⟩,hd1.trans hds.symm⟩
 intro q l hq
 rcases hM.hand q (by rw[hq];simp)with h | ⟨j,h1,_,_,h4⟩
 ·exact Nat.lt_of_lt_of_le h (oC hL hrun hbf hM.le (Nat.le_refl _) _ _)
 ·exact Nat.lt_of_lt_of_le h4.2 (oC hL hrun hbf (show j+1≤ops.size from h1) (Nat.le_refl _) _ _)
theorem QN(hpc : ∀f xs y,pc f xs=some y→iL E.P f xs y)(htc : ∀f xs H y H',tc f xs H=some (y,H')→nc E.P f xs H y H'){ro:Option Nat}{a0:Act}(hds:a0.defers=ds){Q:Exit→Act→World→Prop}
 (hQ : ∀a' w',iY M ι (sts 0) a0 w nt (sts ops.size) a' w'→Q .normal a' w') : ∀(fuel:Nat)(listed:Array Bool)(a1:Act)(w1:World),listed.size=ops.size →
 (List.range ops.size).countP (fun i => !listed.getD i false)≤fuel→Pf E nt ops sts M ι w ds (fun i=>listed.getD i false) a1 w1→wpAnyIn (FW ro) 0 E.P .any ops Q fuel listed a1 w1:=by
 have xK : ∀ {listed:Array Bool},listed.size=ops.size→Region.ready .any ops listed=[] →∀i,i<ops.size→listed.getD i false=true:=by
  intro listed hsz h i
  induction i using Nat.strongRecOn with | ind i ih =>
  intro hi
  cases hl:listed.getD i false with
  | true=>rfl
  | false =>
   exfalso
   have ho:=Array.getElem?_eq_getElem hi
   have hl':listed.getD i true=false:=by
    have:i<listed.size:=by omega
    simpa [Array.getD,this] using hl
   have:i∈Region.ready .any ops listed:=by
    rw[mem_ready]
    refine⟨hl',_,ho,fun e he hb=>?_⟩
    have hmem:e.on∈ep ops[i]:=by
     unfold ep
     exact List.mem_map.2 ⟨e,List.mem_filter.2 ⟨by simpa using he,hb⟩,rfl⟩
    have hlt:=hL.edges i _ ho _ hmem
    exact ih e.on hlt (by omega)
   rw[h]at this
   cases this
 intro fuel
 induction fuel with
 | zero =>
  intro listed a1 w1 hsz hf hI
  have hall : ∀i,i<ops.size→listed.getD i false=true:=by
   intro i hi
   cases hl:listed.getD i false with
   | true=>rfl
   | false =>
    exfalso
    have:0<(List.range ops.size).countP (fun i => !listed.getD i false):=List.countP_pos_iff.2 ⟨i,List.mem_range.2 hi,by rw[hl];rfl⟩
    omega
  refine⟨?_,hQ _ _ (Hv hL hrun hbf hall hds hI)⟩
  refine List.eq_nil_iff_forall_not_mem.2 fun i hi=>?_
  rw[mem_ready]at hi
  obtain⟨h0,o,ho,_⟩:=hi
  have hlt:i<ops.size:=(Array.getElem?_eq_some_iff.1 ho).1
  have h1:=hall i hlt
  have:i<listed.size:=by omega
  simp[Array.getD,this]at h0 h1
  rw[h1]at h0
  cases h0
 | succ fuel ih =>
  intro listed a1 w1 hsz hf hI
  refine⟨fun hr=>hQ _ _ (Hv hL hrun hbf (xK hsz hr) hds hI),fun i hi=>?_⟩
  rw[mem_ready]at hi
  obtain⟨h0,o,ho,hed⟩:=hi
  have hlt:i<ops.size:=(Array.getElem?_eq_some_iff.1 ho).1
  have hil:i<listed.size:=by omega
  have hi0:listed.getD i false=false:=by simpa [Array.getD,hil] using h0
  have hedge : ∀e∈ep o,(fun i=>listed.getD i false) e=true:=by
   intro e he
   unfold ep at he
   obtain⟨d,hd,rfl⟩:=List.mem_map.1 he
   obtain⟨h1,h2⟩:=List.mem_filter.1 hd
   exact hed d (by simpa using h1) h2
  have hL' : ∀j,(fun j=>(listed.setIfInBounds i true).getD j false) j=true↔((fun j=>listed.getD j false) j=true∨j=i):=by
   intro j
   simp only
   by_cases hji:j=i
   ·subst hji
    simp[hil]
   ·rw[getD_set_ne false (Ne.symm hji)]
    simp[hji]
  have:=L0 (E:=E) (tc:=tc) (ro:=ro) (K:=wpAnyIn (FW ro) 0 E.P .any ops Q fuel (listed.setIfInBounds i true)) (Q:=Q) hL hrun hbf hS0 hD0 hap hsf hpc htc (L:=fun i=>listed.getD i false) ho hi0 hedge hL' hI fun a' w' hI'=>by
   refine ih _ a' w' (by simp[hsz]) ?_ hI'
   have:=AJ (p:=fun j => !listed.getD j false) (p':=fun j => !(listed.setIfInBounds i true).getD j false) (i:=i) (fun j hj=>by
    simp only[Bool.not_eq_true']at hj ⊢
    cases hl:listed.getD j false with
    | false=>rfl
    | true=>have:=(hL' j).2 (.inl hl);simp only at this;rw[this]at hj;cases hj) (by simp only[hi0,Bool.not_false]) (by have:=(hL' i).2 (.inr rfl);simp only at this ⊢;rw[this];rfl) (List.range ops.size) (List.mem_range.2 hlt)
   omega
  unfold wpOpIn
  rw[ho]
  simp only
  split
  ·rename_i hw
   rw[if_pos hw]at this
   exact this
  ·rename_i hw
   rw[if_neg hw]at this
   exact⟨fun _ _=>trivial,this⟩
end
theorem OM{E:Env}(hm:E.P.follows .mixedOrders=true){ops:Array Oper}(hok:Og E ops=true){pc:FuncId→List AV→Option AV}(hpc : ∀f xs y,pc f xs=some y→iL E.P f xs y)
 {tc:sn→List AV→ab→dz} (htc : ∀f xs H y H',tc f xs H=some (y,H')→nc E.P f xs H y H') {nt dep id:Nat} {st st':St} {M:Mem} {ι:Map} {a:Act} {w:World} {ro:Option Nat} {Q:Exit→Act→World→Prop}
 (h:kY E pc tc nt dep true ops ops.toList st=some st') (hap:o6 E ops st'=true) (hO:qU M ι st nt a w) (hQ : ∀a' w',iY M ι st a w nt st' a' w'→Q .normal a' w'):(Code.region id ops true).wpIn (FW ro) 0 E.P Q a w:=by
 obtain⟨sts,h1,h2,h3⟩:=B1 ops.toList st st' h
 rw[Array.length_toList]at h2
 have hL:=QK hok
 have hrun : ∀i o,ops[i]?=some o→evalOp E pc tc nt dep true ops o (sts i)=some (sts (i+1)):=fun i o ho=>h3 i o (by simpa using ho)
 subst h1
 subst h2
 have hne:(oc E ops).isEmpty=false:=by
  unfold Og at hok
  rw[Bool.and_eq_true]at hok
  simpa using hok.1
 unfold o6 at hap
 rw[hne,Bool.false_or,Bool.and_eq_true,Bool.and_eq_true]at hap
 refine wpIn_region_any hm ?_
 have hF0:pA M ι (sts 0).hp.get w M ι (sts 0).hp.get { w with drawn:=w.drawn+1} :=
  ⟨rfl,rfl,rfl,Nat.le_refl _,fun _ _ _=>rfl,fun _ _ _ h=>h,fun _ _ h=>h,fun r k l h h' => .inr ⟨r,k,l,h,h',rfl⟩,fun _ _ _ h => .inl h⟩
 have hno : ∀i,(Array.replicate ops.size false).getD i false=false:=by
  intro i
  simp only[Array.getD_eq_getD_getElem?,Array.getElem?_replicate]
  split<;>rfl
 refine QN (tc:=tc) (M:=M) (ι:=ι) (w:=w) (a0:=a) hL hrun hap.2.2 hO.sim hO.dom hap.1 hap.2.1 hpc htc rfl hQ ops.size _ a _ (by simp) ?_ ?_
 ·exact Nat.le_trans List.countP_le_length (by simp)
 ·refine⟨fun i o hi=>?_,rfl,M,ι,(sts 0).tm,(sts 0).hp.get,0,?_,hO.tr,hO.nt,hO.sim.drew rfl,hF0,Nat.zero_le _,fun j o hj=>absurd hj (Nat.not_lt_zero _),fun q hq=>?_,fun q=>⟨0,Nat.zero_le _,rfl,fun j _ _=>⟨fun hj=>?_,fun hj=>absurd hj (Nat.not_lt_zero _)⟩⟩⟩
  ·exact absurd ((hno i).symm.trans hi) (by simp)
  ·exact fun t=>⟨fun i _ hi=>absurd ((hno i).symm.trans hi) (by simp),fun _=>rfl⟩
  ·cases hqq:ι q with
   | none=>exact absurd hqq hq
   | some l=>exact .inl (hO.dom q l hqq)
  ·exact absurd ((hno j).symm.trans hj) (by simp)
end Go.Ab
namespace Go.Ab
open Go.ChangeShapes Go.WideShapes Go.RowKit
structure Kept (W W':World):Prop where
 os:W'.os=W.os
 output:W'.output=W.output
 size:W.heap.size≤W'.heap.size
 old : ∀b,b<W.heap.size→W'.heap[b]?=W.heap[b]?
theorem Kept.keptBut{W W':World}(h:Kept W W')(may:MemPlace→Prop):W.keptBut W' may:=by
 refine⟨h.os,h.output,fun i hi=>?_⟩
 rw[h.old i hi]
 have:=Array.getElem?_eq_getElem hi
 rw[this]
 cases W.heap[i]<;>simp
theorem Kept.frozen{W W':World}(h:Kept W W'){a:Addr}(ha:a.block<W.heap.size):W'.frozen? a=W.frozen? a:=by
 unfold World.frozen?
 rw[h.old _ ha]
theorem Kept.same{W W':World}(h:Kept W W'){p:MemPlace}(hp:p.block<W.heap.size):W.sameAt W' p:=by
 cases p with
 | cell b off=>exact World.cell?_of_block (h.old b hp)
 | map b=>exact h.old b hp
section
variable{H:Type}{enc:TypeId × Value→H}{P:Program}
theorem Fi{T:TypeId→Prop}(K:Kids P T)(hz : ∀t e,T t→P.underlying t=some (.slice e)→0<P.cellsOf e){W W':World}(hk:Kept W W'){sp:Nat→Bool}{base:Nat} : ∀ {ts:List TypeId} {vs:List Value} {ds:List (DataW H)} {ps:List MemPlace},(∀t∈ts,T t) →
 DataW.TrodAll enc P W base (fun _=>true) true ts vs ds ps→(∀p∈ps,sp p.block=true)→DataW.TrodAll enc P W' base sp true ts vs ds ps:=by
 intro ts vs ds ps hT h hs
 have h1:=h.respare K hz hT hs
 have hl:=h.lt
 clear h hs hT
 induction ts generalizing vs ds ps with
 | nil =>
  obtain⟨rfl,rfl,rfl⟩:=trodAll_nil h1
  exact trodAll_mk0
 | cons t ts ih =>
  obtain⟨v,vs',d,ds',p,q,rfl,rfl,rfl,⟨n,hn⟩,h2⟩:=trodAll_cons h1
  refine⟨p,q,⟨n,DataW.trod_carry n t _ _ hn fun x hx=>hk.same (hl x (List.mem_append_left _ hx))⟩,ih h2 fun x hx=>hl x (List.mem_append_right _ hx),rfl⟩
theorem LI{T:TypeId→Prop}(K:Kids P T)(hz : ∀t e,T t→P.underlying t=some (.slice e)→0<P.cellsOf e){f:Func}{s:ChangeSpec}{apart fresh handsOn again:Bool}{W W':World}{args:Array Value}{ds gs:List (DataW H)}{before:List MemPlace}
 (hT : ∀t∈f.params.toList,T t) (hv:s.vars=[]) (hW:DataW.Whole enc P f.params.toList s.vars apart W args.toList ds gs before) (hs:s.fn H ds = { results:=[.lit (.bool true)],args:=ds})
 {tb:TypeId} (hr:f.resultTypes = #[tb]) (hb:P.underlying tb=some .bool) (hk:Kept W W'):s.post enc P f apart fresh handsOn again W args (.bool true) W':=by
 have hW0:=hW
 obtain⟨p,q,hA,hV,rfl,hfz,hnd⟩:=hW0
 rw[hv]at hV
 obtain⟨rfl,rfl⟩:=trodVars_none hV
 have hlt:=hA.lt
 have hs':s.fn H (ds++[]) = { results:=[.lit (.bool true)],args:=ds}:=by rw[List.append_nil];exact hs
 have hres : ∀(b:Nat)(sp:Nat→Bool)(hd:Bool),DataW.TrodAll enc P W' b sp hd f.resultTypes.toList ((Value.bool true).resultList f.resultTypes.size) (s.fn H (ds++[])).results []:=by
  intro b sp hd
  rw[hr,hs']
  exact trodAll_mk1 (shut_bool hb true)
 have hargs : ∀sp:Nat→Bool,(∀x∈p,sp x.block=true)→DataW.TrodAll enc P W' 0 sp true f.params.toList args.toList (s.fn H (ds++[])).args p:=by
  intro sp hsp
  rw[hs']
  exact Fi K hz hk hT hA hsp
 have hvars : ∀sp:Nat→Bool,DataW.TrodVars enc P W' sp s.vars (s.fn H (ds++[])).vars []:=by
  intro sp
  rw[hv,hs']
  rfl
 rw[List.append_nil]at hnd hfz
 refine⟨ds,[],p++[],[],p,[],hW,hres _ _ _,hargs _ (fun x hx=>by simpa using hlt x hx),hvars _,hk.keptBut _,fun _=>?_⟩
 have hall:=trodAll_append (hargs (fun _=>true) (fun _ _=>rfl)) (hres 0 (fun _=>true) true)
 rw[List.append_nil]at hall
 refine⟨ok_one hr rfl (okWide_bool_mk hb true),_,[],p++[],⟨p,[],hall,(by rw[hv];rfl),rfl,?_,?_⟩,fun x hx _=>hx⟩
 ·intro b off hp
  rw[List.append_nil]at hp
  rw[hk.frozen (show(⟨b,off,none⟩:Addr).block<W.heap.size from hlt _ hp)]
  exact hfz b off hp
 ·intro ha
  rw[List.append_nil]
  exact hnd ha
end
theorem JX{E:Env}{ok:Array Oper→Bool}(hE:E.Ok ok){n:Nat}{f:FuncId}{xs:List AV}(h:dv E (ct E n) f xs=some (.v (.bool true))){W:World}{us:List Value}
 (hv:jC (fun b o=>W.cell? ⟨b,o,none⟩) ed xs us):Calls E.P f us.toArray W fun e W'=>e = .returned (.bool true)∧Kept W W':=by
 refine((Ri hE h).2 _ W us (fun _ _ _ h=>h) hv).mono fun e W' ⟨v,M',he,hend⟩=>?_
 obtain⟨ls,h1,h2,_⟩:=hend.res ⟨0,0,0,0⟩
 have hfl:aN ⟨0,0,0,0⟩ depth (.v (.bool true)) []=(.v (.bool true),[]):=ry _ depth 1 _ _ rfl
 rw[hfl]at h2
 cases h2
 exact⟨he,hend.os,hend.output,hend.size,hend.old⟩
def OB(E:Env)(l:List FuncId):Bool:=l.all fun f=>match E.P.funcs[f]? with
 | some fn => !(fn.name == "runtime.NumGoroutine")&&(match fn.body with | some c=>codeOk (Ad E) c | none=>true)
 | none=>false
def Yn(ops:Array Oper)(i:Nat):Nat:=match ops[i]? with
 | some o=>(match o.dst with | some d=>d | none=>0)
 | none=>0
def yd:List (Nat × Nat × Nat × List (Tmp × Tmp))→Array Oper→List (Tmp × Tmp)
 | [],_=>[]
 | (a,b,c,l) :: tab,ops=>cond (Nat.beq b ops.size) (cond (Nat.beq a (Yn ops 0)) (cond (Nat.beq c (Yn ops (b - 1))) l (yd tab ops)) (yd tab ops)) (yd tab ops)
def K7(tab:List (Nat × Nat × Nat))(o:Oper):Bool:=match o.op with
 | .call c=>(match c.callee with
  | .builtin .append=>(match o.dst,c.args.toList with
   | some d,[.tmp a,.tmp b]=>tab.any fun(x,y,z)=>Nat.beq x d&&Nat.beq y a&&Nat.beq z b
   | _,_=>false)
  | .value (.tmp t)=>(match o.dst with
   | some d=>tab.any fun(x,y,z)=>Nat.beq x d&&Nat.beq y t&&Nat.beq z 66666
   | none=>false)
  | .builtin .len=>(match o.dst with
   | some d=>tab.any fun(x,y,z)=>Nat.beq x d&&Nat.beq y 0&&Nat.beq z 55555
   | none=>false)
  | _=>false)
 | .buildSlice _ n _=>(match o.dst with
  | some d=>tab.any fun(x,y,z)=>Nat.beq x d&&Nat.beq y n&&Nat.beq z 77777
  | none=>false)
 | _=>false
def N8:Option Operand→Bool
 | some (.const (.slice none 0 0))=>true
 | _=>false
def Tk(o:Oper):Bool:=match o.op with
 | .call c=>(match c.callee with
  | .builtin .append=>N8 c.args[0]?
  | _=>false)
 | _=>false
def SG(tab:List (Nat × Nat × Nat))(o:Oper):Bool:=match o.op with
 | .buildSlice _ n _=>(match o.dst with
  | some d=>tab.any fun(x,y,z)=>Nat.beq x d&&Nat.beq y n&&Nat.beq z 88888
  | none=>false)
 | .call c=>(match o.dst with
  | some d=>tab.any fun(x,y,z)=>Nat.beq x d&&((Nat.beq y 0&&Nat.beq z 88888)||(Nat.beq z 88889&&(match c.callee with
   | .value (.func g)=>Nat.beq g y
   | _=>false)))
  | none=>false)
 | _=>false
def MY(tab:List (Nat × Nat × Nat))(o:Oper):Bool:=Tk o||K7 tab o
def Q9(P:Program)(l cV lj:List FuncId)(strict:Oper→Bool)(apart:Array Oper→List (Tmp × Tmp))(jb:Oper→Bool:=fun _=>false):Env := { jb:=jb,P:=P,strict:=strict,apart:=apart,mode:=fun f=>if cV.contains f then (if lj.contains f then 3 else 1) else if lj.contains f then 2 else 0,allowed:=fun f=>l.contains f,spec:=fun _ _=>none}
def CO(P:Program)(l cV lj:List FuncId)(strict:Oper→Bool:=fun _=>false)(apart:Array Oper→List (Tmp × Tmp):=fun _=>[])(jb:Oper→Bool:=fun _=>false)(Hl:List (FuncId × List AV × AV):=[])(wide:Oper→Bool:=fun _=>false)(pP:FuncId→Option TypeId:=fun _=>none)(thrSpec:FuncId→List AV→ab→Option (AV × ab):=fun _ _ _=>none)(sm:IB:=N6):Env :=
 {jb:=jb,P:=P,strict:=strict,apart:=apart,mode:=fun f=>if cV.contains f then (if lj.contains f then 3 else 1) else if lj.contains f then 2 else 0,allowed:=fun f=>l.contains f,spec:=FA Hl,ok:=Ad (Q9 P l cV lj strict apart jb),wide:=wide,pP:=pP,thrSpec:=thrSpec,sm:=sm}
noncomputable def CD:IB:=⟨fun H H' => @decide (∀q k,H.get q=some k→H'.get q=some k) (Classical.propDecidable _),fun H H' h => @of_decide_eq_true _ (Classical.propDecidable _) h⟩
theorem HL{H H':ab}(h : ∀q k,H.get q=some k→H'.get q=some k):CD.f H H'=true := @decide_eq_true _ (Classical.propDecidable _) h
theorem O1 : ∀(n:Nat)(x y:AV),E3 n x y=true→x=y:=by
 intro n
 induction n with
 | zero=>intro x y h;simp[E3]at h
 | succ n ih =>
  intro x y h
  unfold E3 at h
  split at h
  ·rw[Gn h]
  ·simp only[Bool.and_eq_true]at h
   rw[od ih _ _ (Nat.eq_of_beq_eq_true h.1) h.2]
  ·simp only[Bool.and_eq_true,decide_eq_true_eq]at h
   rw[od ih _ _ (Nat.eq_of_beq_eq_true h.1.2) h.2,Nat.eq_of_beq_eq_true h.1.1.1,h.1.1.2]
  ·cases h
theorem Oe{xs ys:List AV}(h:Of xs ys=true):xs=ys:=by
 unfold Of at h
 simp only[Bool.and_eq_true]at h
 exact od (O1 8) _ _ (Nat.eq_of_beq_eq_true h.1) h.2
theorem QJ{P:Program}{T:List (FuncId × List AV × AV)}(hT : ∀p∈T,iL P p.1 p.2.1 p.2.2){f:FuncId}{args:List AV}{y:AV}(h:FA T f args=some y):iL P f args y:=by
 induction T with
 | nil=>cases h
 | cons p T ih =>
  obtain⟨g,xs,z⟩:=p
  unfold FA at h
  split at h
  ·rename_i hc
   simp only[Bool.and_eq_true]at hc
   cases h
   have:=hT _ (List.mem_cons_self ..)
   simp only at this
   rw[←Nat.eq_of_beq_eq_true hc.1,←Oe hc.2]
   exact this
  ·exact ih (fun p hp=>hT p (List.mem_cons_of_mem _ hp)) h
theorem KQ{P:Program}{l cV lj:List FuncId}{strict:Oper→Bool}{apart:Array Oper→List (Tmp × Tmp)}{jb:Oper→Bool}{Hl:List (FuncId × List AV × AV)}{wide:Oper→Bool}{pP:FuncId→Option TypeId}{thrSpec:FuncId→List AV→ab→Option (AV × ab)}{sm:IB}(hspec : ∀p∈Hl,iL P p.1 p.2.1 p.2.2)(hm:P.follows .mixedOrders=true)(h0:OB (CO P l cV lj strict apart jb) l=true)(hover : ∀f t,pP f=some t→xP P f t)(hthr : ∀f args H y H',thrSpec f args H=some (y,H')→nc P (.fn f) args H y H') :
 (CO P l cV lj strict apart jb Hl wide pP thrSpec sm).Ok (Ad (CO P l cV lj strict apart jb Hl wide pP thrSpec sm)) where
 fns:=by
  intro f hf
  have h:OB (CO P l cV lj strict apart jb Hl) l=true:=h0
  have hf':f∈l:=by simpa [CO] using hf
  have:=List.all_eq_true.1 h f hf'
  split at this
  ·rename_i fn hfn
   simp only[Bool.and_eq_true,Bool.not_eq_true']at this
   refine⟨fn,hfn,this.1,fun c hc=>?_⟩
   have h2:=this.2
   rw[hc]at h2
   exact h2
  ·cases this
 specs:=fun f args y h=>QJ hspec h
 same:=rfl
 overs:=hover
 thrs:=hthr
 draws:=fun ops hok _ hpc _ htc nt dep id st st' M ι a w ro Q hr hap hO hQ=>by
  rcases Bool.or_eq_true_iff.1 hok with h1 | h1
  ·exact OL hm h1 hpc htc hr hO hQ
  ·exact OM hm h1 hpc htc hr hap hO hQ
theorem Hk{P:Program} : ∀p∈([]:List (FuncId × List AV × AV)),iL P p.1 p.2.1 p.2.2:=fun p hp=>by simp at hp
def F7(P:Program)(f:Func):Bool:=match f.resultTypes.toList with
 | [t]=>(match P.underlying t with | some .bool=>true | _=>false)
 | _=>false
theorem J1{P:Program}{f:Func}(h:F7 P f=true) : ∃tb,f.resultTypes = #[tb]∧P.underlying tb=some .bool:=by
 unfold F7 at h
 split at h
 ·rename_i t ht
  split at h
  ·rename_i hb
   exact⟨t,by rw[←Array.toList_inj,ht],hb⟩
  ·cases h
 ·cases h
end Go.Ab
