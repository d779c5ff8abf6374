/-
  Maps of the abstract machine against the model's. No statement of a seat is proved here.
  Calls of the abstract machine, and one operation of it, against the model's. No statement of a seat is proved here.
  A call that shares the heap and leaves it as it was. No statement of a seat is proved here.
  One operation of the abstract machine against the model's. No statement of a seat is proved here.
  The abstract machine against the model's. No statement of a seat is proved here.
  The abstract machine against the model's: the theorem. No statement of a seat is proved here.
  The abstract machine against the model's: the theorem. No statement of a seat is proved here.
-/
import Derived.Conc.LoneCalls
import Derived.Test.YtdbiffjdomokfaaGreatAbsOps
set_option linter.unusedVariables false
set_option linter.unusedSimpArgs false
namespace Go.Ab
theorem bO{α β:Type}{P:Program}(s:Sem α)(f:α→Sem β):bz P (s >>= f)=(bz P s).bind fun a=>bz P (f a):=by
 induction s with
 | pure a=>rfl
 | program k ih=>exact ih P
 | mark m k ih=>exact ih
 | _=>rfl
theorem tw{α:Type}{P:Program}(a:α):bz P (pure a:Sem α)=some a:=rfl
def dummy(es:List MapEntry):List MapEntry:=es.map fun e=>⟨e.key,Go.undef,0⟩
theorem DT{d:TypeDesc}{k:Value} : ∀(es:List MapEntry)(i:Nat),(Instr.findNow d k es i=none↔Instr.findNow d k (dummy es) i=none)∧(Instr.findNow d k es i=some none↔Instr.findNow d k (dummy es) i=some none) ∧
 ∀j v,Instr.findNow d k (dummy es) i=some (some (j,v))→i≤j ∧∃e,es[j - i]?=some e∧Instr.findNow d k es i=some (some (j,e.val)):=by
 intro es
 induction es with
 | nil=>intro i;simp[dummy,Instr.findNow]
 | cons e es ih =>
  intro i
  obtain⟨h1,h2,h3⟩:=ih (i+1)
  simp only[dummy,List.map_cons,Instr.findNow]
  cases hs:Instr.sameNow d k e.key with
  | none=>simp
  | some b =>
   cases b with
   | true =>
    refine⟨by simp,by simp,fun j v h=>?_⟩
    simp only[Option.some.injEq,Prod.mk.injEq]at h
    obtain⟨rfl,_⟩:=h
    exact⟨Nat.le_refl _,e,by simp,rfl⟩
   | false =>
    refine⟨h1,h2,fun j v h=>?_⟩
    obtain⟨g1,e',g2,g3⟩:=h3 j v h
    refine⟨by omega,e',?_,g3⟩
    rw[show j - i=(j - (i+1))+1 by omega]
    simpa using g2
theorem z6{P:Program}{kt:TypeId}{k:Value} : ∀(es:List MapEntry)(i:Nat)(o:Option (Nat × Value)),bz P (Instr.findAsking kt k (dummy es) i)=some o →∀w:World,
 (o=none→(Instr.findAsking kt k es i).run P w = .ok none w) ∧∀j v,o=some (j,v)→i≤j ∧∃e,es[j - i]?=some e∧(Instr.findAsking kt k es i).run P w = .ok (some (j,e.val)) w:=by
 intro es
 induction es with
 | nil =>
  intro i o h w
  simp only[dummy,List.map_nil,Instr.findAsking,tw,Option.some.injEq]at h
  subst h
  exact⟨fun _=>rfl,fun j v e=>by cases e⟩
 | cons e es ih =>
  intro i o h w
  simp only[dummy,List.map_cons,Instr.findAsking]at h
  rw[bO]at h
  obtain⟨b,hb,h⟩:=Option.bind_eq_some_iff.1 h
  have hr:=lD hb w
  cases b with
  | true =>
   simp only[if_true,tw,Option.some.injEq]at h
   subst h
   refine⟨fun e=>by (cases e),fun j v e'=>?_⟩
   cases e'
   exact⟨Nat.le_refl _,e,by simp,by simp[Instr.findAsking,hr]⟩
  | false =>
   simp only[Bool.false_eq_true,if_false]at h
   obtain⟨h1,h2⟩:=ih (i+1) o h w
   refine⟨fun e'=>by simp[Instr.findAsking,hr,h1 e'],fun j v e'=>?_⟩
   obtain⟨g1,e2,g2,g3⟩:=h2 j v e'
   refine⟨by omega,e2,?_,by simp[Instr.findAsking,hr,g3]⟩
   rw[show j - i=(j - (i+1))+1 by omega]
   simpa using g2
theorem oN{P:Program}{empty:Bool}{kt:TypeId}{k:Value}{es:List MapEntry}{o:Option Nat}(h:tB P empty kt k (es.map (·.key))=some o)(w:World) :
 (Instr.checkKey empty 10000 kt k).run P w = .ok () w∧(o=none→(Instr.findKey kt k es).run P w = .ok none w) ∧∀j,o=some j →∃e,es[j]?=some e∧(Instr.findKey kt k es).run P w = .ok (some (j,e.val)) w:=by
 unfold tB at h
 split at h
 ·rename_i hc
  obtain⟨o',ho',e⟩:=Option.map_eq_some_iff.1 h
  have hD:(es.map (·.key)).map (fun x=>(⟨x,Go.undef,0⟩:MapEntry))=dummy es:=by simp[dummy,Function.comp_def]
  rw[hD]at ho'
  unfold Instr.findKey at ho'
  rw[bO]at ho'
  obtain⟨d,hd,ho'⟩:=Option.bind_eq_some_iff.1 ho'
  have hrd:=lD hd w
  refine⟨lD hc w,?_⟩
  obtain⟨h1,h2,h3⟩:=DT (d:=d) (k:=k) es 0
  cases hn:Instr.findNow d k (dummy es) 0 with
  | some r =>
   rw[hn]at ho'
   simp only[tw,Option.some.injEq]at ho'
   subst ho'
   cases r with
   | none =>
    simp only[Option.map_none]at e
    subst e
    refine⟨fun _=>?_,fun j e=>?_⟩
    ·simp[Instr.findKey,hrd,h2.2 hn]
    ·cases e
   | some p =>
    obtain⟨j0,v0⟩:=p
    simp only[Option.map_some]at e
    subst e
    refine⟨fun e=>(by cases e),fun j e=>?_⟩
    cases e
    obtain⟨_,e',g2,g3⟩:=h3 j0 v0 hn
    exact⟨e',by simpa using g2,by simp[Instr.findKey,hrd,g3]⟩
  | none =>
   rw[hn]at ho'
   simp only at ho'
   obtain⟨g1,g2⟩:=z6 es 0 o' ho' w
   have hnn:=h1.2 hn
   cases o' with
   | none =>
    simp only[Option.map_none]at e
    subst e
    refine⟨fun _=>?_,fun j e=>?_⟩
    ·simp[Instr.findKey,hrd,hnn,g1 rfl]
    ·cases e
   | some p =>
    obtain⟨j0,v0⟩:=p
    simp only[Option.map_some]at e
    subst e
    refine⟨fun e=>(by cases e),fun j e=>?_⟩
    cases e
    obtain⟨_,e',k2,k3⟩:=g2 j0 v0 rfl
    exact⟨e',by simpa using k2,by simp[Instr.findKey,hrd,hnn,k3]⟩
 ·cases h
theorem tp{P:Program}{t kt et:TypeId}(h:Dy P t=some (kt,et)):P.underlying t=some (.map kt et):=by
 unfold Dy at h
 split at h
 ·rename_i k e hu;cases h;exact hu
 ·cases h
section
variable{P:Program}{M:Mem}{ι:Map}{g:dk}{w:World}{r:Ref}
theorem wm(hS:fh M ι g w){ents:List AV}(hm:hJ g r=some ents){l:Loc}(hr:ι r=some l)(hz:l.esz=0) :
 ∃a f entries,g r=some ⟨0,.v (.bool true) :: ents,a,f⟩∧w.heap[l.b]?=some (.map entries entries.size)∧entries.size=ents.length ∧
  (∀(i:Nat) ent e,ents[i]?=some ent→entries[i]?=some e →∃ka va,ent = .tup [ka,va]∧fP ka=some e.key∧VR M ι va e.val∧e.born=i) ∧∀ks,ents.mapM vt=some ks→ks=entries.toList.map (·.key):=by
 unfold hJ at hm
 split at hm
 ·rename_i es f hg
  cases hm
  obtain⟨l',hl',hb⟩:=hS.live r _ hg
  rw[hr]at hl';cases hl'
  rcases hb.objOk rfl with ⟨_,_,_,_,_,_,_,_,_,h3,_⟩ | ⟨ents',entries,h1,h2,h3,h4,h5,h6⟩ | ⟨_,_,_,_,_,_,_,_,h3,_⟩
  ·simp at h3
  rotate_left
  ·simp at h3
  ·simp only[List.cons.injEq,true_and]at h3
   subst h3
   refine⟨false,f,entries,hg,h4,h5,h6,fun ks hks=>?_⟩
   have hl:=gY hks
   apply List.ext_getElem?
   intro i
   rcases Nat.lt_or_ge i entries.size with hi | hi
   ·have hie:i<ents.length:=by omega
    obtain⟨y,hy,hk⟩:=gZ hks i _ (List.getElem?_eq_getElem hie)
    obtain⟨ka,va,e1,e2,_⟩:=h6 i _ entries[i] (List.getElem?_eq_getElem hie) (Array.getElem?_eq_getElem hi)
    rw[hy]
    rw[e1]at hk
    simp only[vt]at hk
    rw[hk]at e2
    cases e2
    simp[Array.getElem?_eq_getElem hi]
   ·rw[List.getElem?_eq_none (by rw[hl];omega),List.getElem?_eq_none (by simp;omega)]
 ·cases hm
theorem Jd(hS:fh M ι g w){t:TypeId}{x k y:AV}{ux uk:Value}(hx:VR M ι x ux)(hk:VR M ι k uk){ok:Bool}{bs:List bN}(h:da P g t (some x) (some k) ok=some (y,bs)) :
 bs=[] ∧∃u,(Instr.lookup t ux uk ok).run P w = .ok u w∧VR M ι y u:=by
 have fin : ∀ {v:AV} {u:Value} (b:Bool),VR M ι v u→VR M ι (if ok then .tup [v,.v (.bool b)] else v) (if ok then .tuple #[u,.bool b] else u):=by
  intro v u b hv
  cases ok with
  | false=>exact hv
  | true =>
   refine .tup (by simp) rfl fun i c u' hc hu=>?_
   match i with
   | 0=>simp at hc hu;subst hc;subst hu;exact hv
   | 1=>simp at hc hu;subst hc;subst hu;exact .v rfl
   | i+2=>simp at hc
 unfold da at h
 split at h
 ·rename_i kt et r' kv ht hxe hke
  cases hxe
  cases hx with | mp hr hz =>
  rename_i l
  have huk:uk=kv:=by simpa using qi hk (by simpa using hke)
  subst huk
  split at h
  ·rename_i ents hm
   obtain⟨a,f,entries,hg,hh,hsz,hent,hks⟩:=wm hS hm hr hz
   split at h
   ·rename_i ks hks0
    have hkse:=hks ks hks0
    have hemp:entries.isEmpty=ks.isEmpty:=by rw[hkse];simp
    split at h
    ·rename_i i hf
     rw[hkse]at hf
     obtain⟨v,hv,h⟩:=Option.map_eq_some_iff.1 h
     cases h
     obtain⟨h1,_,h3⟩:=oN hf w
     obtain⟨e,he,hrun⟩:=h3 i rfl
     obtain⟨ent,hent1,hv⟩:=Option.bind_eq_some_iff.1 hv
     obtain⟨ka,va,e1,e2,e3⟩:=hent i ent e hent1 (by simpa using he)
     subst e1
     simp only[CQ,Option.some.injEq]at hv
     subst hv
     refine⟨rfl,_,?_,fin true e3.1⟩
     rw[←hkse,←hemp]at h1
     have hgo:(getObj l.b).run P w = .ok (.map entries entries.size) w:=by simp[getObj,Sem.run,hh]
     simp only[Instr.lookup,Sem.run_bind,Sem.run_pure,bH (tp ht),Result.andThen_ok,hgo,h1,hrun]
    ·rename_i hf
     rw[hkse]at hf
     obtain⟨z,hzz,h⟩:=Option.map_eq_some_iff.1 h
     cases h
     obtain⟨h1,h2,_⟩:=oN hf w
     obtain⟨u,hu,hv⟩:=sF hzz w
     refine⟨rfl,_,?_,fin false (gT hv)⟩
     rw[←hkse,←hemp]at h1
     have hgo:(getObj l.b).run P w = .ok (.map entries entries.size) w:=by simp[getObj,Sem.run,hh]
     simp only[Instr.lookup,Sem.run_bind,Sem.run_pure,bH (tp ht),Result.andThen_ok,hgo,h1,h2 rfl,hu]
    ·cases h
   ·cases h
  ·cases h
 ·cases h
theorem Je(hS:fh M ι g w){ts:Array TypeId}{ty:TypeId}{r':Ref}{x:AV}{u0:Value}(hy:VR M ι (.mp r') u0){bs:List bN}(h:re P g ts[0]? r'=some (x,bs)) :
 bs=[] ∧∃u,(Builtin.len_ ts ty #[u0]).run P w = .ok u w∧VR M ι x u:=by
 unfold re at h
 split at h
 ·rename_i p ents ht hm
  obtain⟨t,ht,htm⟩:=Option.bind_eq_some_iff.1 ht
  cases h
  cases hy with | mp hr hz =>
  rename_i l
  obtain⟨a,f,entries,hg,hh,hsz,_,_⟩:=wm hS hm hr hz
  have hgo:(getObj l.b).run P w = .ok (.map entries entries.size) w:=by simp[getObj,Sem.run,hh]
  refine⟨rfl,goInt entries.size,by simp[Builtin.len_,ht,bH (tp htm),hgo],?_⟩
  rw[←hsz]
  exact .v rfl
 ·cases h
theorem EF(hS:fh M ι g w)(hq:ι r=none){w':World}{o:Obj}(hw:Aq w w' o){k:bN}(hob:kU M (gp ι r ⟨w.heap.size,0,0⟩) w' ⟨w.heap.size,0,0⟩ k) :
 fh M (gp ι r ⟨w.heap.size,0,0⟩) (iz g r k) w'∧pA M ι g w M (gp ι r ⟨w.heap.size,0,0⟩) (iz g r k) w':=by
 have hle:=yb (l:=⟨w.heap.size,0,0⟩) hq
 have hMlt : ∀b o x,M b o=some x→b<w.heap.size:=fun b o x h=>World.block_lt_of_cell? w ⟨b,o,none⟩ (hS.mem b o x h)
 have one : ∀ {q:Ref} {k' l1},iz g r k q=some k'→gp ι r ⟨w.heap.size,0,0⟩ q=some l1→(q=r∧l1.b=w.heap.size)∨(q≠r∧g q=some k'∧ι q=some l1∧l1.b<w.heap.size):=by
  intro q k' l1 h h'
  unfold iz at h
  unfold gp at h'
  split at h
  ·rename_i e;rw[if_pos e]at h';cases h';exact .inl ⟨e,rfl⟩
  ·rename_i e
   rw[if_neg e]at h'
   obtain⟨l2,hl2,hb2⟩:=hS.live q k' h
   rw[h']at hl2;cases hl2
   exact .inr ⟨e,h,h',hb2.lt⟩
 refine⟨⟨fun b o x h=>hw.cell (hS.mem b o x h),fun q k' h=>?_,fun q q' k1 k2 l1 l2 h1 h2 h3 h4 h5=>?_⟩,⟨hw.os,hw.tape,hw.output,by rw[hw.heap];simp,fun b hb _=>hw.old b hb,fun _ _ _ h=>h,hle,fun q k' l1 h1 h2=>?_,fun _ _ _ h => .inl h⟩⟩
 ·unfold iz at h
  split at h
  ·rename_i e
   subst e
   cases h
   exact⟨⟨w.heap.size,0,0⟩,by simp[gp],hob.Mz rfl fun o x hx=>absurd (hMlt _ _ _ hx) (Nat.lt_irrefl _)⟩
  ·obtain⟨l1,hl1,hb1⟩:=hS.live q k' h
   exact⟨l1,hle q l1 hl1,hb1.cV (fun _ _ _ h=>h) hle (hw.old _ hb1.lt) hb1.frozen⟩
 ·rcases one h1 h3 with ⟨e1,e2⟩ | ⟨e1,e2,e3,e4⟩<;>rcases one h2 h4 with ⟨f1,f2⟩ | ⟨f1,f2,f3,f4⟩
  ·rw[e1,f1]
  ·omega
  ·omega
  ·exact hS.inj q q' k1 k2 l1 l2 e2 f2 e3 f3 h5
 ·rcases one h1 h2 with ⟨e1,e2⟩ | ⟨e1,e2,e3,e4⟩
  ·exact .inl (by omega)
  ·exact .inr ⟨q,k',l1,e2,e3,rfl⟩
theorem G1(hS:fh M ι g w)(hr:r.k=0)(hq:ι r=none)(t:TypeId) :
 ∃u w',(Instr.makeMap t none).run P w = .ok u w'∧gI M ι g w r (.mp r) [bw []] u w':=by
 have hgr:Aq w (w.alloc (.map #[] 0)) (.map #[] 0):=⟨rfl,rfl,rfl,rfl⟩
 obtain⟨h1,h2⟩:=EF hS hq hgr (k:=bw []) (.inr (.inl ⟨[], #[],rfl,rfl,rfl,by rw[hgr.heap];simp,rfl,fun i ent e h=>by simp at h⟩))
 refine⟨.map (some w.heap.size),w.alloc (.map #[] 0),by simp[Instr.makeMap,run_newObj_alloc],M,gp ι r ⟨w.heap.size,0,0⟩,.mp (l:=⟨w.heap.size,0,0⟩) (by simp[gp]) rfl,by rw[mG _ _ hr];exact h1,by rw[mG _ _ hr];exact h2,?_⟩
 intro q hq' hk
 have:q≠r:=by intro e;exact hk 0 (by simp) (by rw[e];cases r;simp_all)
 simpa [gp,this] using hq'
theorem pg{H:ab}{l:Loc}{k:bN}(hS:fh M ι H.get w)(hD:pB ι H)(hr:ι r=some l)(hz:l.esz=0)(hg:H.get r=some k){k':bN}{o':Obj}(hob:kU M ι (bW w l.b o') l k') :
 fh M ι (H.put r (some k')).get (bW w l.b o')∧pA M ι H.get w M ι (H.put r (some k')).get (bW w l.b o')∧pB ι (H.put r (some k')):=by
 obtain⟨l',hl',hb⟩:=hS.live r _ hg
 rw[hr]at hl';cases hl'
 have hk0:k.esz=0:=by rw[←hb.esz];exact hz
 have hM : ∀o x,M l.b o=some x→False:=by
  intro o x hx
  have:=hS.mem _ _ _ hx
  rcases(hb.objOk hk0).obj with ⟨_,h4⟩ | ⟨_,_,h4⟩ | ⟨_,_,_,_,_,_,h4⟩
  ·simp[World.cell?,h4]at this
  ·simp[World.cell?,h4]at this
  ·simp[World.cell?,h4]at this
 have back : ∀q k1,(H.put r (some k')).get q=some k1 →∃k0,H.get q=some k0:=by
  intro q k1 hq
  rw[ab.get_put]at hq
  split at hq
  ·rename_i e;exact⟨_,e ▸ hg⟩
  ·exact⟨k1,hq⟩
 refine⟨⟨fun b o x hx=>?_,fun q k1 hq=>?_,fun q q' k1 k2 l1 l2 h1 h2 h3 h4 h5=>?_⟩,⟨rfl,rfl,rfl,by simp[bW],fun b _ hno=>ei (hno r _ l hg hr),fun _ _ _ h=>h,fun _ _ h=>h,fun q k1 l1 h1 h2=>?_,fun _ _ _ h => .inl h⟩,fun q lq hq=>?_⟩
 ·have hne:l.b≠b:=fun e=>hM o x (e ▸ hx)
  rw[World.cell?_of_block (w:=w) (ei hne)]
  exact hS.mem b o x hx
 ·by_cases hqr:q=r
  ·subst hqr
   rw[ab.get_put,if_pos rfl]at hq
   cases hq
   exact⟨l,hr,hob.Mz hz hM⟩
  ·rw[ab.get_put,if_neg hqr]at hq
   obtain⟨l1,hl1,hb1⟩:=hS.live q k1 hq
   have hnb:l.b≠l1.b:=fun e=>hqr (hS.inj q r k1 _ l1 l hq hg hl1 hr e.symm)
   exact⟨l1,hl1,hb1.cV (fun _ _ _ h=>h) (fun _ _ h=>h) (ei hnb) hb1.frozen⟩
 ·obtain⟨k0,g1⟩:=back q k1 h1
  obtain⟨k3,g2⟩:=back q' k2 h2
  exact hS.inj q q' k0 k3 l1 l2 g1 g2 h3 h4 h5
 ·obtain⟨k0,g1⟩:=back q k1 h1
  exact .inr ⟨q,k0,l1,g1,h2,rfl⟩
 ·rw[ab.kz _ _ _ (by rw[hg];rfl)]
  exact hD q lq hq
theorem Dm{H:ab}(hS:fh M ι H.get w)(hD:pB ι H){t:TypeId}{m k x y:AV}{um uk ux:Value}(hm:VR M ι m um)(hk:VR M ι k uk)(hx:VR M ι x ux){H':ab}(h:dO P H t (some m) (some k) (some x)=some (y,H')) :
 ∃w',(Instr.mapUpdate t um uk ux).run P w = .ok () w'∧qI M ι H w y H' undef w':=by
 unfold dO at h
 split at h
 ·rename_i kt et r' k' x' ht e1 e2 e3
  cases e1;cases e2;cases e3
  cases hm with | mp hr hz =>
  rename_i l
  split at h
  ·rename_i kv ents hkv hma
   have huk:uk=kv:=qi hk hkv
   subst huk
   obtain⟨a,f,entries,hg,hh,hsz,hent,hks⟩:=wm hS hma hr hz
   have hlt:l.b<w.heap.size:=(Array.getElem?_eq_some_iff.1 hh).1
   have hgo:(getObj l.b).run P w = .ok (.map entries entries.size) w:=by simp[getObj,Sem.run,hh]
   have hso : ∀o,(setObj l.b o).run P w = .ok () (bW w l.b o):=by intro o;simp[setObj,Sem.run,hh,bW]
   split at h
   ·rename_i ks hks0
    have hkse:=hks ks hks0
    split at h
    ·rename_i i hf
     rw[hkse]at hf
     obtain⟨hc,h⟩:=Option.ite_none_right_eq_some.1 h
     cases h
     obtain⟨h1,_,h3⟩:=oN hf w
     obtain⟨e,he,hrun⟩:=h3 i rfl
     have he':entries[i]?=some e:=by simpa using he
     have hil:i<entries.size:=(Array.getElem?_eq_some_iff.1 he').1
     have hsb:Instr.sameBits 10000 e.key uk=true:=by
      rw[hkse]at hc
      simp only[List.getElem?_map,Array.getElem?_toList,he',Option.map_some,Option.some.injEq]at hc
      exact hc
     have hstay:(Instr.keyThatStays (((entries[i]?).map (·.key)).getD uk) uk).run P w = .ok uk w:=by
      rw[he']
      simp[Instr.keyThatStays,hsb]
     refine⟨bW w l.b (.map (entries.modify i fun e => { e with key:=uk,val:=ux}) entries.size),by simp only[Instr.mapUpdate,Sem.run_bind,bH (tp ht),Result.andThen_ok,hgo,h1,hrun,hstay,hso],M,ι,.v rfl,?_⟩
     refine pg hS hD hr hz hg (.inr (.inl ⟨ents.set i (.tup [k,x]),entries.modify i fun e => { e with key:=uk,val:=ux},rfl,rfl,rfl,?_,by simp[hsz],fun j ent e1 hj he1=>?_⟩))
     ·rw[eI hlt];simp
     ·rw[Array.getElem?_modify]at he1
      by_cases hij:i=j
      ·subst hij
       rw[if_pos rfl,he']at he1
       simp only[Option.map_some,Option.some.injEq]at he1
       subst he1
       rw[List.getElem?_set_self (by omega)]at hj
       cases hj
       obtain⟨_,_,_,_,_,hb⟩:=hent i _ e (List.getElem?_eq_getElem (by omega)) he'
       exact⟨k,x,rfl,hkv,hx,hb⟩
      ·rw[if_neg hij]at he1
       rw[List.getElem?_set_ne hij]at hj
       exact hent j ent e1 hj he1
    ·rename_i hf
     rw[hkse]at hf
     cases h
     obtain⟨h1,h2,_⟩:=oN hf w
     refine⟨bW w l.b (.map (entries.push { key:=uk,val:=ux,born:=entries.size}) (entries.size+1)),by simp only[Instr.mapUpdate,Sem.run_bind,bH (tp ht),Result.andThen_ok,hgo,h1,h2 rfl,hso],M,ι,.v rfl,?_⟩
     refine pg hS hD hr hz hg (.inr (.inl ⟨ents++[.tup [k,x]],entries.push { key:=uk,val:=ux,born:=entries.size},rfl,rfl,rfl,?_,by simp[hsz],fun j ent e1 hj he1=>?_⟩))
     ·rw[eI hlt];simp
     ·rcases Nat.lt_or_ge j entries.size with hlt' | hge
      ·rw[Array.getElem?_push_lt hlt',←Array.getElem?_eq_getElem hlt']at he1
       rw[List.getElem?_append_left (by omega)]at hj
       exact hent j ent e1 hj he1
      ·rw[List.getElem?_append_right (by omega)]at hj
       have hj0:j=entries.size:=by
        have:=(List.getElem?_eq_some_iff.1 hj).1
        simp at this
        omega
       subst hj0
       simp only[hsz,Nat.sub_self,List.getElem?_cons_zero,Option.some.injEq]at hj
       subst hj
       simp at he1
       subst he1
       exact⟨k,x,rfl,hkv,hx,rfl⟩
    ·cases h
   ·cases h
  ·cases h
 ·cases h
theorem E6{H:ab}(hS:fh M ι H.get w)(hD:pB ι H){t:TypeId}{m k y:AV}{um uk:Value}(hm:VR M ι m um)(hk:VR M ι k uk){H':ab}(h:eF P H t (some m) (some k)=some (y,H')) :
 ∃u w',(Instr.mapEntry t um uk).run P w = .ok u w'∧qI M ι H w y H' u w':=by
 have two : ∀ {v:AV} {u:Value} (n:Nat),VR M ι v u→VR M ι (.tup [v,.v (.int .i64 n)]) (.tuple #[u,goInt n]):=by
  intro v u n hv
  refine .tup (by simp) rfl fun i c u' hc hu=>?_
  match i with
  | 0=>simp at hc hu;subst hc;subst hu;exact hv
  | 1=>simp at hc hu;subst hc;subst hu;exact .v rfl
  | i+2=>simp at hc
 unfold eF at h
 split at h
 ·rename_i kt et r' k' ht e1 e2
  cases e1;cases e2
  cases hm with | mp hr hz =>
  rename_i l
  split at h
  ·rename_i kv ents hkv hma
   have huk:uk=kv:=qi hk hkv
   subst huk
   obtain⟨a,f,entries,hg,hh,hsz,hent,hks⟩:=wm hS hma hr hz
   have hlt:l.b<w.heap.size:=(Array.getElem?_eq_some_iff.1 hh).1
   have hgo:(getObj l.b).run P w = .ok (.map entries entries.size) w:=by simp[getObj,Sem.run,hh]
   have hso : ∀o,(setObj l.b o).run P w = .ok () (bW w l.b o):=by intro o;simp[setObj,Sem.run,hh,bW]
   split at h
   ·rename_i ks hks0
    have hkse:=hks ks hks0
    split at h
    ·rename_i i hf
     rw[hkse]at hf
     obtain⟨hc,h⟩:=Option.ite_none_right_eq_some.1 h
     obtain⟨v,hv,h⟩:=Option.map_eq_some_iff.1 h
     cases h
     obtain⟨h1,_,h3⟩:=oN hf w
     obtain⟨e,he,hrun⟩:=h3 i rfl
     have he':entries[i]?=some e:=by simpa using he
     have hil:i<entries.size:=(Array.getElem?_eq_some_iff.1 he').1
     have hsb:Instr.sameBits 10000 e.key uk=true:=by
      rw[hkse]at hc
      simp only[List.getElem?_map,Array.getElem?_toList,he',Option.map_some,Option.some.injEq]at hc
      exact hc
     have hstay:(Instr.keyThatStays (((entries[i]?).map (·.key)).getD uk) uk).run P w = .ok uk w:=by
      rw[he']
      simp[Instr.keyThatStays,hsb]
     obtain⟨ent,hent1,hv⟩:=Option.bind_eq_some_iff.1 hv
     obtain⟨ka,va,q1,q2,q3,q4⟩:=hent i ent e hent1 he'
     subst q1
     simp only[CQ,Option.some.injEq]at hv
     subst hv
     refine⟨.tuple #[e.val,goInt i],bW w l.b (.map (entries.modify i fun e => { e with key:=uk}) entries.size),?_,M,ι,two i q3,?_⟩
     ·have hborn:(Option.map (fun x:MapEntry=>(x.born:Int)) entries[i]?).getD 0=(i:Int):=by rw[he'];simp[q4]
      simp only[Instr.mapEntry,Sem.run_bind,Sem.run_pure,bH (tp ht),Result.andThen_ok,hgo,h1,hrun,hstay,hso,hborn]
     refine pg hS hD hr hz hg (.inr (.inl ⟨ents.set i (.tup [k,va]),entries.modify i fun e => { e with key:=uk},rfl,rfl,rfl,?_,by simp[hsz],fun j ent e1 hj he1=>?_⟩))
     ·rw[eI hlt];simp
     ·rw[Array.getElem?_modify]at he1
      by_cases hij:i=j
      ·subst hij
       rw[if_pos rfl,he']at he1
       simp only[Option.map_some,Option.some.injEq]at he1
       subst he1
       rw[List.getElem?_set_self (by omega)]at hj
       cases hj
       exact⟨k,va,rfl,hkv,q3,q4⟩
      ·rw[if_neg hij]at he1
       rw[List.getElem?_set_ne hij]at hj
       exact hent j ent e1 hj he1
    ·rename_i hf
     rw[hkse]at hf
     obtain⟨z,hzz,h⟩:=Option.map_eq_some_iff.1 h
     cases h
     obtain⟨h1,h2,_⟩:=oN hf w
     obtain⟨uz,hu,hv⟩:=sF hzz w
     refine⟨.tuple #[uz,goInt ents.length],bW w l.b (.map (entries.push { key:=uk,val:=uz,born:=entries.size}) (entries.size+1)),?_,M,ι,two ents.length (gT hv),?_⟩
     ·simp only[Instr.mapEntry,Sem.run_bind,Sem.run_pure,bH (tp ht),Result.andThen_ok,hgo,h1,h2 rfl,hu,hso,hsz]
     refine pg hS hD hr hz hg (.inr (.inl ⟨ents++[.tup [k,z]],entries.push { key:=uk,val:=uz,born:=entries.size},rfl,rfl,rfl,?_,by simp[hsz],fun j ent e1 hj he1=>?_⟩))
     ·rw[eI hlt];simp
     ·rcases Nat.lt_or_ge j entries.size with hlt' | hge
      ·rw[Array.getElem?_push_lt hlt',←Array.getElem?_eq_getElem hlt']at he1
       rw[List.getElem?_append_left (by omega)]at hj
       exact hent j ent e1 hj he1
      ·rw[List.getElem?_append_right (by omega)]at hj
       have hj0:j=entries.size:=by
        have:=(List.getElem?_eq_some_iff.1 hj).1
        simp at this
        omega
       subst hj0
       simp only[hsz,Nat.sub_self,List.getElem?_cons_zero,Option.some.injEq]at hj
       subst hj
       simp at he1
       subst he1
       exact⟨k,z,rfl,hkv,gT hv,rfl⟩
    ·cases h
   ·cases h
  ·cases h
 ·cases h
theorem Bu{H:ab}(hS:fh M ι H.get w)(hD:pB ι H){t:TypeId}{m s x y:AV}{um us ux:Value}(hm:VR M ι m um)(hs:VR M ι s us)(hx:VR M ι x ux){H':ab}(h:dn H (some m) (some s) (some x)=some (y,H')) :
 ∃w',(Instr.entryStore t um us ux).run P w = .ok () w'∧qI M ι H w y H' undef w':=by
 unfold dn at h
 split at h
 ·rename_i r' kd n x' e1 e2 e3
  cases e1;cases e2;cases e3
  cases hm with | mp hr hz =>
  rename_i l
  cases hs
  split at h
  ·rename_i ents hma
   obtain⟨hn,h⟩:=Option.ite_none_right_eq_some.1 h
   split at h
   ·rename_i ka va hen
    cases h
    obtain⟨a,f,entries,hg,hh,hsz,hent,_⟩:=wm hS hma hr hz
    have hlt:l.b<w.heap.size:=(Array.getElem?_eq_some_iff.1 hh).1
    have hgo:(getObj l.b).run P w = .ok (.map entries entries.size) w:=by simp[getObj,Sem.run,hh]
    have hso : ∀o,(setObj l.b o).run P w = .ok () (bW w l.b o):=by intro o;simp[setObj,Sem.run,hh,bW]
    have hil:n.toNat<entries.size:=by have:=(List.getElem?_eq_some_iff.1 hen).1;omega
    have born : ∀j (hj:j<entries.size),entries[j].born=j:=by
     intro j hj
     obtain⟨_,_,_,_,_,hb⟩:=hent j _ entries[j] (List.getElem?_eq_getElem (by omega)) (Array.getElem?_eq_getElem hj)
     exact hb
    have hfi:entries.findIdx? (fun e=>(e.born:Int) == n)=some n.toNat:=by
     rw[Array.findIdx?_eq_some_iff_getElem]
     refine⟨hil,?_,fun j hj=>?_⟩
     ·rw[born _ hil];simp;omega
     ·rw[born j (by omega)];simp;omega
    obtain⟨ka',va',q1,q2,q3,q4⟩:=hent n.toNat _ entries[n.toNat] hen (Array.getElem?_eq_getElem hil)
    cases q1
    refine⟨bW w l.b (.map (entries.modify n.toNat fun e => { e with val:=ux}) entries.size),?_,M,ι,.v rfl,?_⟩
    ·simp only[Instr.entryStore,Sem.run_bind,Sem.run_pure,Result.andThen_ok,hgo,asInt,asIntOf,hfi,hso]
    refine pg hS hD hr hz hg (.inr (.inl ⟨ents.set n.toNat (.tup [ka,x]),entries.modify n.toNat fun e => { e with val:=ux},rfl,rfl,rfl,?_,by simp[hsz],fun j ent e1 hj he1=>?_⟩))
    ·rw[eI hlt];simp
    ·rw[Array.getElem?_modify]at he1
     by_cases hij:n.toNat=j
     ·subst hij
      rw[if_pos rfl,Array.getElem?_eq_getElem hil]at he1
      simp only[Option.map_some,Option.some.injEq]at he1
      subst he1
      rw[List.getElem?_set_self (by omega)]at hj
      cases hj
      exact⟨ka,x,rfl,q2,hx,q4⟩
     ·rw[if_neg hij]at he1
      rw[List.getElem?_set_ne hij]at hj
      exact hent j ent e1 hj he1
   ·cases h
  ·cases h
 ·cases h
theorem C6{g:dk}{r:Ref}{cap:Nat}{cl:Bool}{buf:List AV}(h:JW g r=some (cap,cl,buf)) :
 ∃n f,g r=some ⟨0,.v (.bool false) :: .v (.int .i64 n) :: .v (.bool cl) :: buf,false,f⟩∧n.toNat=cap:=by
 unfold JW at h
 split at h
 ·rename_i n cl' buf' f hg
  cases h
  exact⟨n,f,hg,rfl⟩
 ·cases h
theorem Bq(hS:fh M ι g w){r:Ref}{l:Loc}(hr:ι r=some l){cap:Nat}{cl:Bool}{buf:List AV}(h:JW g r=some (cap,cl,buf)) :
 ∃s t arr,w.heap[l.b]?=some (.chan cap arr cl s t false)∧arr.size=buf.length ∧∀(i:Nat) x u,buf[i]?=some x→arr[i]?=some u→VR M ι x u:=by
 obtain⟨n,f,hg,hn⟩:=C6 h
 obtain⟨l',hl',hb⟩:=hS.live r _ hg
 rw[hr]at hl';cases hl'
 rcases hb.objOk rfl with ⟨_,_,_,_,_,_,_,_,_,h3,_⟩ | ⟨_,_,_,_,h3,_⟩ | ⟨c,s,t,cl',buf',arr,_,_,h3,h4,h5,h6⟩
 ·simp at h3
 ·simp at h3
 ·simp only[List.cons.injEq,AV.v.injEq,Value.int.injEq,Value.bool.injEq,true_and]at h3
  obtain⟨e1,e2,e3⟩:=h3
  subst e2 e3
  have:c=cap:=by omega
  subst this
  exact⟨s,t,arr,h4,h5,h6⟩
theorem Fp(hS:fh M ι g w)(hr:r.k=0)(hq:ι r=none){t e:TypeId}{b:Nat}(ht:BP P t=some e)(hb:lA P e=some b)(k:IntKind)(n:Nat)(hn:n≤1000000)(hbb:b≤1000000) :
 ∃u w',(Instr.makeChan t (.int k n)).run P w = .ok u w'∧gI M ι g w r (.ch r) [gG n false []] u w':=by
 unfold BP at ht
 split at ht
 ·rename_i dir e' hu
  cases ht
  unfold lA at hb
  obtain⟨i,hi,hbi⟩:=Option.map_eq_some_iff.1 hb
  have hgr:Aq w (w.alloc (.chan n #[] false 0 0 false)) (.chan n #[] false 0 0 false):=⟨rfl,rfl,rfl,rfl⟩
  obtain⟨h1,h2⟩:=EF hS hq hgr (k:=gG n false []) (.inr (.inr ⟨n,0,0,false,[], #[],rfl,rfl,rfl,by rw[hgr.heap];simp,rfl,fun i x u h=>by simp at h⟩))
  have hmul:(i.bytes:Int) * n≤281474976710544:=by
   have h0:i.bytes * n≤1000000 * 1000000:=Nat.mul_le_mul (hbi ▸ hbb) hn
   have h1:((i.bytes * n:Nat):Int)=(i.bytes:Int) * n:=by simp
   omega
  refine⟨_,_,Go.Conc.run_makeChan hu hi k n (by omega) hmul,M,gp ι r ⟨w.heap.size,0,0⟩,.ch (l:=⟨w.heap.size,0,0⟩) (by simp[gp]) rfl,by rw[mG _ _ hr];exact h1,by rw[mG _ _ hr];exact h2,?_⟩
  intro q hq' hk
  have:q≠r:=by intro e;exact hk 0 (by simp) (by rw[e];cases r;simp_all)
  simpa [gp,this] using hq'
 ·cases ht
theorem BW(w:World)(c cap:Nat)(buf:Array Value)(cl:Bool)(s r:Nat):w.setChan c cap buf cl s r false=bW w c (.chan cap buf cl s r false):=rfl
def Dj(P:Program)(o:Oper)(a:Act)(w:World)(S:Value→World→Prop):Prop :=
 ∀(b:Frame)(k:List Item)(cs:List Frame)(ops:Array Oper)(i:Nat)(rest:List Nat),b.kind = .normal→ops[i]?=some o→Region.wanted o (yielded ops a.tmps)=true →
  ∃u w',S u w'∧step P (lone (b.atR a (.inRegion ops (i :: rest) :: k)) cs w) = .next (lone (b.atR (a.put o.dst u) (.inRegion ops rest :: k)) cs w')
theorem uU{P:Program}{b:Frame}{a:Act}{k:List Item}{cs:List Frame}{w w':World}{ops:Array Oper}{i:Nat}{rest:List Nat}{o:Oper}{cases:Array CommCase}{shape:CommShape}(hk:b.kind = .normal)(ho:ops[i]?=some o)
 (hw:Region.wanted o (yielded ops a.tmps)=true) (hd : ∀c,o.op ≠ .defer c) (hr:(execOp a.eval o).run P w = .ok (.comm cases true shape) w') :
 ∃es,stepG P true (Go.Conc.G (b.atR a (.inRegion ops (i :: rest) :: k)) cs) w = .comm (Go.Conc.G (b.atR a (.inRegion ops (i :: rest) :: k)) cs) cases true shape w' es:=by
 have h1:=stepGR_op (P:=P) (b:=b) (k:=k) (cs:=cs) (w:=w) (rest:=rest) ho hw
 rw[Oper.semAt_eq _ _ _ hd]at h1
 unfold Go.Conc.G
 rw[h1]
 have hk':(b.kind == CallKind.early)=false:=by rw[hk];rfl
 refine⟨Go.Conc.listed P b.fn a o w,?_⟩
 simp[stepG.apply,hr,Frame.atR,hk',GStep.after,Go.Conc.listed]
theorem MD{P:Program}{o:Oper}{a:Act}{H:ab}(hS:fh M ι H.get w)(hD:pB ι H){cx xx:Operand}(hop:o.op = .send cx xx){c x y:AV}{H':ab}(hc:VR M ι c (a.eval cx))(hx:VR M ι x (a.eval xx))
 (h:wF H (some c) (some x)=some (y,H')):Dj P o a w fun u w'=>qI M ι H w y H' u w':=by
 unfold wF at h
 split at h
 ·rename_i r x' e1 e2
  cases e1;cases e2
  split at h
  ·rename_i cap buf hat
   obtain⟨⟨hlt,hfl⟩,h⟩:=Option.ite_none_right_eq_some.1 h
   cases h
   generalize hcv:a.eval cx=cv at hc
   cases hc with | @ch _ _ l hr hz =>
   obtain⟨s,t,arr,hh,hsz,hel⟩:=Bq hS hr hat
   obtain⟨n,f,hg,_⟩:=C6 hat
   have hb:l.b<w.heap.size:=(Array.getElem?_eq_some_iff.1 hh).1
   intro b k cs ops i rest hk ho hw
   obtain⟨es,hst⟩:=uU (P:=P) (b:=b) (a:=a) (k:=k) (cs:=cs) (w:=w) (w':=w) (rest:=rest) (cases := #[Go.Conc.scase l.b (a.eval xx) (.tuple #[])]) (shape := .send) hk ho hw (by simp[hop]) (by simp[execOp,hop,Go.Conc.scase,hcv])
   have hs2:=Go.Conc.step_lone_send_room hst hh (by omega)
   obtain⟨k1,k2,k3⟩:=pg hS hD hr hz hg (k':=gG cap false (buf++[x])) (o' := .chan cap (arr.push (a.eval xx)) false (s+1) t false)
    (.inr (.inr ⟨cap,s+1,t,false,buf++[x],arr.push (a.eval xx),rfl,rfl,rfl,eI hb,by simp[hsz],fun j z u hz' hu=>by
     rcases Nat.lt_or_ge j buf.length with hj | hj
     ·rw[List.getElem?_append_left hj]at hz'
      rw[Array.getElem?_push_lt (by omega)]at hu
      exact hel j z u hz' (by rw[←hu];exact Array.getElem?_eq_getElem (by omega))
     ·rw[List.getElem?_append_right hj]at hz'
      have hj0:j - buf.length=0:=by
       have:=(List.getElem?_eq_some_iff.1 hz').1
       simp at this;omega
      rw[hj0]at hz'
      have hj1:j=arr.size:=by omega
      rw[hj1,Array.getElem?_push_size]at hu
      simp at hz' hu
      subst hz' hu
      exact hx⟩))
   refine⟨undef,_,⟨M,ι,.v rfl,k1,k2,k3⟩,?_⟩
   rw[Go.Conc.lone_eq_solo,hs2,Frame.finish_atR,ho,Go.Conc.lone_eq_solo,BW]
   rfl
  ·cases h
 ·cases h
theorem KJ{M:Mem}{ι:Map}{x:AV}{u:Value}(ok b:Bool)(h:VR M ι x u):VR M ι (TP ok x b) (Go.Conc.got ok u b):=by
 cases ok with
 | false=>exact h
 | true =>
  refine .tup (by simp) rfl fun i c v hc hv=>?_
  match i with
  | 0=>simp at hc hv;subst hc hv;exact h
  | 1=>simp at hc hv;subst hc hv;exact .v rfl
  | i+2=>simp at hc
theorem MF{P:Program}{o:Oper}{a:Act}{H:ab}(hS:fh M ι H.get w)(hD:pB ι H){t:TypeId}{cx:Operand}{ok:Bool}(hop:o.op = .recv t cx ok){c y:AV}{H':ab}(hc:VR M ι c (a.eval cx))
 (h:ue P H t (some c) ok=some (y,H')):Dj P o a w fun u w'=>qI M ι H w y H' u w':=by
 unfold ue at h
 split at h
 ·rename_i r z e1 hzero
  cases e1
  generalize hcv:a.eval cx=cv at hc
  cases hc with | @ch _ _ l hr hz =>
  obtain⟨e,he,hze⟩:=Option.bind_eq_some_iff.1 hzero
  unfold BP at he
  split at he
  ·rename_i dir e' hu
   cases he
   unfold eG at hze
   obtain⟨v0,hv0,hz0⟩:=Option.bind_eq_some_iff.1 hze
   obtain⟨inf,hi,hiz⟩:=Option.bind_eq_some_iff.1 hv0
   have hvz:VR M ι z v0:=gT hz0
   have hrun:(execOp a.eval o).run P w = .ok (.comm #[Go.Conc.rcase l.b v0] true (.recv ok)) w:=by
    simp[execOp,hop,Go.Conc.rcase,hcv,run_underlying hu,zeroValue,typeInfo,hi,hiz]
   split at h
   ·rename_i cap cl x buf hat
    cases h
    obtain⟨s,t',arr,hh,hsz,hel⟩:=Bq hS hr hat
    obtain⟨n,f,hg,_⟩:=C6 hat
    have hb:l.b<w.heap.size:=(Array.getElem?_eq_some_iff.1 hh).1
    have hpos:0<arr.size:=by rw[hsz];simp
    intro b k cs ops i rest hk ho hw
    obtain⟨es,hst⟩:=uU (P:=P) (b:=b) (a:=a) (k:=k) (cs:=cs) (w:=w) (w':=w) (rest:=rest) hk ho hw (by simp[hop]) hrun
    have hs2:=Go.Conc.step_lone_recv_buf ok hst hh hpos
    obtain⟨k1,k2,k3⟩:=pg hS hD hr hz hg (k':=gG cap cl buf) (o' := .chan cap (arr.extract 1 arr.size) cl s (t'+1) false)
     (.inr (.inr ⟨cap,s,t'+1,cl,buf,arr.extract 1 arr.size,rfl,rfl,rfl,eI hb,by simp[hsz],fun j z u hz' hu=>by
      refine hel (j+1) z u (by simpa using hz') ?_
      have hj:=(List.getElem?_eq_some_iff.1 hz').1
      rw[Array.getElem?_extract]at hu
      rw[Nat.add_comm j 1]
      split at hu
      ·exact hu
      ·cases hu⟩))
    refine⟨_,_,⟨M,ι,KJ ok true (hel 0 x (arr.getD 0 undef) rfl (by simp[Array.getD,hpos])),k1,k2,k3⟩,?_⟩
    rw[Go.Conc.lone_eq_solo,hs2,Frame.finish_atR,ho,Go.Conc.lone_eq_solo,BW]
    rfl
   ·rename_i cap hat
    cases h
    obtain⟨s,t',arr,hh,hsz,hel⟩:=Bq hS hr hat
    have ha:arr = #[]:=Array.eq_empty_of_size_eq_zero (by simpa using hsz)
    subst ha
    intro b k cs ops i rest hk ho hw
    obtain⟨es,hst⟩:=uU (P:=P) (b:=b) (a:=a) (k:=k) (cs:=cs) (w:=w) (w':=w) (rest:=rest) hk ho hw (by simp[hop]) hrun
    have hs2:=Go.Conc.step_lone_recv_shut ok hst hh
    refine⟨_,_,⟨M,ι,KJ ok false hvz,hS,pA.refl,hD⟩,?_⟩
    rw[Go.Conc.lone_eq_solo,hs2,Frame.finish_atR,ho,Go.Conc.lone_eq_solo]
    rfl
   ·cases h
  ·cases he
 ·cases h
theorem Ku{P:Program}{o:Oper}{a:Act}{w:World}{K:Act→World→Prop}{ops:Array Oper}{i:Nat}(ho:ops[i]?=some o)(hw:Region.wanted o (yielded ops a.tmps)=true)(b:Frame)
 (h:o.wpIn (FW b.roundOf) 0 P a w K (fun _ _ _=>False)) (rest:List Nat) (k:List Item) (cs:List Frame) :
 ∃a' w',K a' w'∧Steps P (lone (b.atR a (.inRegion ops (i :: rest) :: k)) cs w) (lone (b.atR a' (.inRegion ops rest :: k)) cs w'):=by
 obtain⟨_,h⟩:=h
 have hg:=stepGR_op (P:=P) (b:=b) (k:=k) (cs:=cs) (w:=w) (rest:=rest) ho hw
 have hfin : ∀v,(b.atR a (.inRegion ops (i :: rest) :: k)).finish v=b.atR (a.put o.dst v) (.inRegion ops rest :: k):=by
  intro v;rw[Frame.finish_atR,ho];rfl
 have room : ∀n,(FW b.roundOf).room n:=fun n _ h=>by simp[FW,Fence.wide]at h
 rw[show(FW b.roundOf).round=b.roundOf from rfl]at h
 unfold Oper.uponIn at h
 split at h
 ·rename_i v w' hr
  refine⟨_,_,h,.one (step_lone_go ?_)⟩
  rw[hg,←hfin];simp[stepG.apply,hr]
 ·rename_i w' hr
  refine⟨_,_,h,.one (step_lone_go ?_)⟩
  rw[hg,←hfin];simp[stepG.apply,hr]
 ·rename_i d w' hr
  refine⟨_,_,h,.one (step_lone_go ?_)⟩
  have hf:({ b.atR a (.inRegion ops (i :: rest) :: k)with defers:=d :: a.defers}:Frame).finish undef =
   b.atR ({ a with defers:=d :: a.defers}.put o.dst undef) (.inRegion ops rest :: k):=by
   have h1:=Frame.finish_atR b { a with defers:=d :: a.defers} ops i rest k undef
   rw[ho]at h1;exact h1
  rw[hg];simp only[stepG.apply,Sem.runT_eq,hr,GStep.bare_after]
  exact congrArg (fun fr=>GStep.go { frame:=fr,callers:=cs,status := .running,dying:=none} w') hf
 ·rename_i f args w' hr
  obtain⟨_,hF,h⟩:=h
  obtain⟨e,w2,fr,hR,hs,_,hl⟩:=h (b.atR a (.inRegion ops (i :: rest) :: k) :: cs) (room _)
  have henter:step P (lone (b.atR a (.inRegion ops (i :: rest) :: k)) cs w) = .next (lone (Frame.enter P f args .normal) (b.atR a (.inRegion ops (i :: rest) :: k) :: cs) w') :=
   step_lone_go (by rw[hg];simp[stepG.apply,hr,Frame.atR])
  cases e with
  | returned v =>
   refine⟨_,_,hR,Steps.trans (.one henter) (Steps.trans (StepsIn.steps hs) (.one ?_))⟩
   rw[←hfin];exact step_leave_returned hl
  | panicked chain=>exact hR.elim
  | outgrown=>obtain⟨_,_,hq⟩:=hR;exact hq.elim
 ·rename_i row args w' hr
  obtain⟨_,h⟩:=h
  obtain⟨v,w2,hR,hs⟩:=h (b.atR a (.inRegion ops (i :: rest) :: k)) cs (room _)
  have henter:step P (lone (b.atR a (.inRegion ops (i :: rest) :: k)) cs w) = .next (lone (Frame.ofRow P row args .normal) (b.atR a (.inRegion ops (i :: rest) :: k) :: cs) w') :=
   step_lone_go (by rw[hg];simp[stepG.apply,hr,Frame.atR])
  refine⟨_,_,hR,Steps.trans (.one henter) ?_⟩
  rw[←hfin];exact StepsIn.steps hs
 ·rename_i l f tmps assign body w' hr
  obtain⟨_,_,h⟩:=h
  obtain⟨e,w2,hR,hs⟩:=h (b.atR a (.inRegion ops (i :: rest) :: k)) cs (room _)
  have henter:step P (lone (b.atR a (.inRegion ops (i :: rest) :: k)) cs w) = .next (lone (Frame.round l f tmps assign body .normal) (b.atR a (.inRegion ops (i :: rest) :: k) :: cs) w') :=
   step_lone_go (by rw[hg];simp[stepG.apply,hr,Frame.atR])
  cases e with
  | returned v =>
   refine⟨_,_,hR,Steps.trans (.one henter) ?_⟩
   rw[←hfin];exact StepsIn.steps hs
  | panicked chain=>exact hR.elim
  | outgrown=>obtain⟨_,_,hq⟩:=hR;exact hq.elim
 ·exact h.elim
 ·exact h.elim
end
end Go.Ab
namespace Go.Ab
def jt(r:Ref)(ls:List Loc):Map:=fun q=>if q.d=r.d∧q.t=r.t∧q.g=r.g then ls[q.k]? else none
structure uc (M:Mem) (w:World) (y:AV) (v:Value) (M':Mem) (w':World):Prop where
 os:w'.os=w.os
 tape:w'.tape=w.tape
 output:w'.output=w.output
 size:w.heap.size≤w'.heap.size
 old : ∀b,b<w.heap.size→w'.heap[b]?=w.heap[b]?
 mem : ∀b o x,M b o=some x→M' b o=some x
 sound : ∀b o x,M' b o=some x→w'.cell? ⟨b,o,none⟩=some x
 new : ∀b o x,M' b o=some x→M b o=some x∨w.heap.size≤b
 res : ∀r:Ref,∃ls:List Loc,ls.length=(aN r depth y []).2.length∧VR M' (jt r ls) (aN r depth y []).1 v ∧
  (∀(k:Nat) l b,ls[k]?=some l→(aN r depth y []).2[k]?=some b→mb M' ed w' l b∧w.heap.size≤l.b) ∧
  ∀(i j:Nat) l l',ls[i]?=some l→ls[j]?=some l'→l.b=l'.b→i=j
def iL(P:Program)(f:FuncId)(args:List AV)(y:AV):Prop :=
 (∃fn,P.funcs[f]?=some fn∧(fn.name == "runtime.NumGoroutine")=false∧fn.body.isSome=true) ∧
 ∀(M:Mem)(w:World)(us:List Value),(∀b o x,M b o=some x→w.cell? ⟨b,o,none⟩=some x)→jC M ed args us →
  Calls P f us.toArray w fun e w' =>∃v M',e = .returned v∧uc M w y v M' w'
def nc(P:Program):sn→List AV→ab→AV→ab→Prop
 | .fn f,args,H,y,H' =>
  (∃fn,P.funcs[f]?=some fn∧(fn.name == "runtime.NumGoroutine")=false∧fn.body.isSome=true) ∧
  ∀(M:Mem)(ι:Map)(w:World)(us:List Value),fh M ι H.get w→pB ι H→jC M ι args us →
   Calls P f us.toArray w fun e w' =>∃v,e = .returned v∧qI M ι H w y H' v w'
 | .yld r,args,H,y,H' =>∀(M:Mem)(ι:Map)(w:World)(us:List Value)(l:Loc),fh M ι H.get w→pB ι H→jC M ι args us→ι r=some l →
  ∃fn tmps assign body,(Instr.yield l.b us.toArray).run P w = .ok (.round l.b fn tmps assign body) w ∧
   RoundIn (FW none) 0 P l.b fn tmps assign body w fun e w' =>∃v,e = .returned v∧qI M ι H w y H' v w'
theorem wy{M M':Mem}{ι ι':Map} : ∀(n:Nat)(x:AV)(u:Value),flat n x=true→VR M ι x u→VR M' ι' x u:=by
 intro n
 induction n with
 | zero=>intro x u h;simp[flat]at h
 | succ n ih =>
  intro x u h hv
  cases hv with
  | v hs=>exact .v hs
  | agg hl hh =>
   simp only[flat,List.all_eq_true]at h
   exact .agg hl fun i c u hc hu=>ih c u (h c (List.mem_of_getElem? hc)) (hh i c u hc hu)
  | tup h0 hl hh =>
   simp only[flat,List.all_eq_true]at h
   exact .tup h0 hl fun i c u hc hu=>ih c u (h c (List.mem_of_getElem? hc)) (hh i c u hc hu)
  | ifc hh=>exact .ifc (ih _ _ (by simpa [flat] using h) hh)
  | fn ha hb hh hh' =>
   simp only[flat,Bool.and_eq_true,List.all_eq_true]at h
   exact .fn ha hb (fun i c u hc hu=>ih c u (h.1 c (List.mem_of_getElem? hc)) (hh i c u hc hu)) fun i c u hc hu=>ih c u (h.2 c (List.mem_of_getElem? hc)) (hh' i c u hc hu)
  | yld=>simp[flat]at h
  | mp=>simp[flat]at h
  | ch=>simp[flat]at h
  | cw=>simp[flat]at h
  | cM=>simp[flat]at h
  | ptr=>simp[flat]at h
  | iptr=>simp[flat]at h
theorem ry(r:Ref) : ∀(n m:Nat)(x:AV)(bs:List bN),flat m x=true→aN r n x bs=(x,bs):=by
 intro n
 induction n with
 | zero=>intro m x bs h;rfl
 | succ n ih =>
  intro m x bs h
  have lists : ∀(m:Nat)(cs acc:List AV),(∀c∈cs,flat m c=true)→cs.foldl (fun(p:List AV × List bN) c=>(p.1++[(aN r n c p.2).1],(aN r n c p.2).2)) (acc,bs)=(acc++cs,bs):=by
   intro m cs
   induction cs with
   | nil=>intro acc _;simp
   | cons c cs ihc =>
    intro acc hc
    rw[List.foldl_cons,ih m c bs (hc c (List.mem_cons_self ..))]
    rw[ihc (acc++[c]) (fun d hd=>hc d (List.mem_cons_of_mem _ hd))]
    simp
  cases m with
  | zero=>simp[flat]at h
  | succ m =>
   cases x with
   | agg cs =>
    simp only[flat,List.all_eq_true]at h
    have:=lists m cs [] h
    simp only[aN]
    rw[this]
    simp
   | tup cs =>
    simp only[flat,List.all_eq_true]at h
    have:=lists m cs [] h
    simp only[aN]
    rw[this]
    simp
   | fsl=>simp[flat]at h
   | ifc t x =>
    simp only[aN]
    rw[ih m x bs (by simpa [flat] using h)]
   | _=>rfl
theorem Df{g:dk}{r q:Ref}{bs:List bN}{b:bN}(h:oV g r bs q=some b):(q.d=r.d∧q.t=r.t∧q.g=r.g∧bs[q.k]?=some b)∨(¬(q.d=r.d∧q.t=r.t∧q.g=r.g∧q.k<bs.length)∧g q=some b):=by
 unfold oV at h
 split at h
 ·rename_i hc;exact .inl ⟨hc.1,hc.2.1,hc.2.2.1,h⟩
 ·rename_i hc;exact .inr ⟨hc,h⟩
theorem C7{M ι g w}(hS:fh M ι g w){r:Ref}(hq : ∀k,ι { r with k:=k}=none){y:AV}{v:Value}{M':Mem}{w':World}(h:uc M w y v M' w') :
 gI M ι g w r (aN r depth y []).1 (aN r depth y []).2 v w':=by
 obtain⟨ls,hl,hv,hb,hi⟩:=h.res r
 have hkey : ∀q l,jt r ls q=some l→ι q=none:=by
  intro q l hk
  unfold jt at hk
  split at hk
  ·rename_i hc
   have:q = { r with k:=q.k}:=by cases q;cases r;simp_all
   rw[this]
   exact hq _
  ·cases hk
 have hle : ∀q l,ι q=some l→(fun q=>match ι q with | some l=>some l | none=>jt r ls q) q=some l:=by
  intro q l h;simp[h]
 have hle2 : ∀q l,jt r ls q=some l→(fun q=>match ι q with | some l=>some l | none=>jt r ls q) q=some l:=by
  intro q l h;simp[hkey q l h,h]
 have hι' : ∀q l,(fun q=>match ι q with | some l=>some l | none=>jt r ls q) q=some l→ι q=some l∨(ι q=none∧jt r ls q=some l):=by
  intro q l h
  simp only at h
  split at h
  ·rename_i l' hl';exact .inl (by rw[hl',h])
  ·rename_i hn;exact .inr ⟨hn,h⟩
 have back : ∀q b l,oV g r (aN r depth y []).2 q=some b→(fun q=>match ι q with | some l=>some l | none=>jt r ls q) q=some l →
  (g q=some b∧ι q=some l)∨(w.heap.size≤l.b∧jt r ls q=some l∧ls[q.k]?=some l∧q = { r with k:=q.k}):=by
  intro q b l hgq hιq
  rcases Df hgq with ⟨h1,h2,h3,h4⟩ | ⟨h1,h2⟩
  ·right
   have hqr:q = { r with k:=q.k}:=by cases q;cases r;simp_all
   have hn:ι q=none:=by rw[hqr];exact hq _
   rcases hι' q l hιq with h5 | ⟨_,h5⟩
   ·rw[hn]at h5;cases h5
   ·have h6:ls[q.k]?=some l:=by unfold jt at h5;rw[if_pos ⟨h1,h2,h3⟩]at h5;exact h5
    exact⟨(hb q.k l b h6 h4).2,h5,h6,hqr⟩
  ·left
   obtain⟨l0,hl0,_⟩:=hS.live q b h2
   rcases hι' q l hιq with h5 | ⟨h5,_⟩
   ·exact⟨h2,h5⟩
   ·rw[hl0]at h5;cases h5
 refine⟨M',fun q=>match ι q with | some l=>some l | none=>jt r ls q,hv.mono (fun _ _ _ h=>h) _ hle2,?_,?_,?_⟩
 ·refine⟨h.sound,?_,?_⟩
  ·intro q b hgq
   rcases Df hgq with ⟨h1,h2,h3,h4⟩ | ⟨h1,h2⟩
   ·have hlt:q.k<ls.length:=by rw[hl];exact(List.getElem?_eq_some_iff.1 h4).1
    have hls:ls[q.k]?=some ls[q.k]:=List.getElem?_eq_getElem hlt
    obtain⟨hbk,hge⟩:=hb q.k _ b hls h4
    have hkm:jt r ls q=some ls[q.k]:=by unfold jt;rw[if_pos ⟨h1,h2,h3⟩];exact hls
    refine⟨_,hle2 q _ hkm,?_⟩
    exact hbk.cV (fun _ _ _ h=>h) (fun q l h=>by cases h) rfl hbk.frozen
   ·obtain⟨l,hl',hbk⟩:=hS.live q b h2
    refine⟨l,hle q l hl',hbk.cV h.mem hle (h.old _ hbk.lt) ?_⟩
    intro o x hx
    rcases h.new _ _ _ hx with h3 | h3
    ·exact hbk.frozen o x h3
    ·exact absurd hbk.lt (Nat.not_lt.2 h3)
  ·intro q q' b b' l l' h1 h2 h3 h4 h5
   rcases back q b l h1 h3 with ⟨a1,a2⟩ | ⟨a1,a2,a3,a4⟩<;>rcases back q' b' l' h2 h4 with ⟨b1,b2⟩ | ⟨b1,b2,b3,b4⟩
   ·exact hS.inj q q' b b' l l' a1 b1 a2 b2 h5
   ·obtain⟨l0,hl0,hbk⟩:=hS.live q b a1
    rw[a2]at hl0;cases hl0
    exact absurd hbk.lt (by rw[h5];exact Nat.not_lt.2 b1)
   ·obtain⟨l0,hl0,hbk⟩:=hS.live q' b' b1
    rw[b2]at hl0;cases hl0
    exact absurd hbk.lt (by rw[←h5];exact Nat.not_lt.2 a1)
   ·have:=hi _ _ _ _ a3 b3 h5
    rw[a4,b4,this]
 ·refine⟨h.os,h.tape,h.output,h.size,fun b hb' _=>h.old b hb',h.mem,hle,?_,?_⟩
  ·intro q b l h1 h3
   rcases back q b l h1 h3 with ⟨a1,a2⟩ | ⟨a1,_⟩
   ·exact .inr ⟨q,b,l,a1,a2,rfl⟩
   ·exact .inl a1
  ·intro b o x hx
   rcases h.new b o x hx with h1 | h1
   ·exact .inl h1
   ·exact .inr (.inl h1)
 ·intro q hqn hk
  simp only[hqn]
  unfold jt
  split
  ·rename_i hc
   have hqr:q = { r with k:=q.k}:=by cases q;cases r;simp_all
   have : ¬q.k<(aN r depth y []).2.length:=fun hlt=>hk q.k hlt hqr
   exact List.getElem?_eq_none (by rw[hl];omega)
  ·rfl
theorem D4{M ι g w}(hS:fh M ι g w){r:Ref}{y:AV}{v:Value}{M1 M':Mem}{w':World}(hf:flat depth y=true)(h:uc M1 w y v M' w'):gI M ι g w r y [] v w':=by
 obtain⟨ls,hl,hv,hb,hi⟩:=h.res r
 rw[ry r depth depth y [] hf]at hv
 refine⟨M,ι,wy depth y v hf hv,?_,?_,fun q hq _=>hq⟩
 ·rw[kR]
  refine⟨?_,?_,hS.inj⟩
  ·intro b o x hx
   have:=hS.mem b o x hx
   rw[World.cell?_of_block (w:=w) (h.old _ (World.block_lt_of_cell? w ⟨b,o,none⟩ this))]
   exact this
  ·intro q b hq
   obtain⟨l,hl',hbk⟩:=hS.live q b hq
   exact⟨l,hl',hbk.cV (fun _ _ _ h=>h) (fun _ _ h=>h) (h.old _ hbk.lt) hbk.frozen⟩
 ·rw[kR]
  exact⟨h.os,h.tape,h.output,h.size,fun b hb' _=>h.old b hb',fun _ _ _ h=>h,fun _ _ h=>h,fun q b l h1 h2 => .inr ⟨q,b,l,h1,h2,rfl⟩,fun _ _ _ h => .inl h⟩
theorem JN{M M':Mem}{ι ι':Map}{e x:AV}{u:Value}{j:Nat}(he:flat depth e=true)(hx:e.cells[j]?=some x)(h:VR M ι x u):VR M' ι' x u:=by
 cases e with
 | agg cs =>
  have hm:x∈cs:=List.mem_of_getElem? hx
  have : ∀c∈cs,flat 7 c=true:=by simpa [flat,depth] using he
  exact wy 7 x u (this x hm) h
 | _ =>
  simp only[AV.cells]at hx
  cases j with
  | zero=>simp at hx;subst hx;exact wy depth _ u he h
  | succ j=>simp at hx
theorem Jj(r:Ref) : ∀(n:Nat)(x:AV)(bs:List bN),yC n x=true →∃new,(aN r n x bs).2=bs++new∧(∀b∈new,0<b.esz∧b.arr=true∧b.jb=false ∧∀e∈b.es,flat depth e=true) ∧
 ∀(M M':Mem)(ι:Map)(u:Value),VR M ι (aN r n x bs).1 u→VR M' ι (aN r n x bs).1 u:=by
 intro n
 induction n with
 | zero=>intro x bs h;simp[yC]at h
 | succ n ih =>
  intro x bs h
  have lists : ∀(cs acc:List AV)(bs:List bN),(∀c∈cs,yC n c=true) →∃(new:List bN) (zs:List AV),cs.foldl (fun(p:List AV × List bN) c=>(p.1++[(aN r n c p.2).1],(aN r n c p.2).2)) (acc,bs)=(acc++zs,bs++new) ∧
   (∀b∈new,0<b.esz∧b.arr=true∧b.jb=false ∧∀e∈b.es,flat depth e=true) ∧∀(M M':Mem)(ι:Map)(z:AV),z∈zs →∀u,VR M ι z u→VR M' ι z u:=by
   intro cs
   induction cs with
   | nil=>intro acc bs _;exact⟨[],[],by simp,fun b hb=>by simp at hb,fun _ _ _ z hz=>by simp at hz⟩
   | cons c cs ihc =>
    intro acc bs hc
    obtain⟨n1,a1,a2,a3⟩:=ih c bs (hc c (List.mem_cons_self ..))
    obtain⟨n2,zs,b1,b2,b3⟩:=ihc (acc++[(aN r n c bs).1]) (bs++n1) fun d hd=>hc d (List.mem_cons_of_mem _ hd)
    refine⟨n1++n2,(aN r n c bs).1 :: zs,?_,?_,?_⟩
    ·rw[List.foldl_cons]
     simp only
     rw[a1,b1]
     simp
    ·intro b hb
     rcases List.mem_append.1 hb with hb | hb
     ·exact a2 b hb
     ·exact b2 b hb
    ·intro M M' ι z hz u hv
     rcases List.mem_cons.1 hz with rfl | hz
     ·exact a3 M M' ι u hv
     ·exact b3 M M' ι z hz u hv
  cases x with
  | v x=>exact⟨[],by simp[aN],fun b hb=>by simp at hb,fun M M' ι u hv=>by simp only[aN]at hv ⊢;cases hv with | v hs=>exact .v hs⟩
  | agg cs =>
   simp only[yC,List.all_eq_true]at h
   obtain⟨new,zs,h1,h2,h3⟩:=lists cs [] bs h
   simp only[aN]
   rw[h1]
   refine⟨new,rfl,h2,fun M M' ι u hv=>?_⟩
   simp only[List.nil_append]at hv ⊢
   cases hv with | agg hl hh =>
   exact .agg hl fun i c u hc hu=>h3 M M' ι c (List.mem_of_getElem? hc) u (hh i c u hc hu)
  | tup cs =>
   simp only[yC,List.all_eq_true]at h
   obtain⟨new,zs,h1,h2,h3⟩:=lists cs [] bs h
   simp only[aN]
   rw[h1]
   refine⟨new,rfl,h2,fun M M' ι u hv=>?_⟩
   simp only[List.nil_append]at hv ⊢
   cases hv with | tup h0 hl hh =>
   exact .tup h0 hl fun i c u hc hu=>h3 M M' ι c (List.mem_of_getElem? hc) u (hh i c u hc hu)
  | fsl z es cap =>
   simp only[yC,Bool.and_eq_true,bne_iff_ne,ne_eq,List.all_eq_true]at h
   simp only[aN]
   rw[if_neg h.1]
   refine⟨[⟨z,es,true,false⟩],rfl,?_,fun M M' ι u hv=>?_⟩
   ·intro b hb
    rw[List.mem_singleton.1 hb]
    exact⟨Nat.pos_of_ne_zero h.1,rfl,rfl,h.2⟩
   ·cases hv with | cM hr hb hs ha hc hn hk hz=>exact .cM hr hb hs ha hc hn hk hz
  | cw z es cap =>
   have he0:es=[]:=by simpa [yC] using h
   subst he0
   refine⟨[],by simp[aN],fun b hb=>by simp at hb,fun M M' ι u hv=>?_⟩
   simp only[aN]at hv ⊢
   cases hv with | cw cell hs hc hk hm he hh=>exact .cw cell hs hc hk (fun i j h1=>by simp at h1) he fun i j e x h1=>by simp at h1
  | ifc t x =>
   obtain⟨new,h1,h2,h3⟩:=ih x bs (by simpa [yC] using h)
   simp only[aN]
   exact⟨new,h1,h2,fun M M' ι u hv=>by cases hv with | ifc hv'=>exact .ifc (h3 M M' ι _ hv')⟩
  | _=>simp[yC]at h
theorem uc.own{M M1 M':Mem}{w w':World}{y:AV}{v:Value}(hM : ∀b o x,M b o=some x→w.cell? ⟨b,o,none⟩=some x)(ho:yC depth y=true)(h:uc M1 w y v M' w'):uc M w y v M w':=by
 have hlt : ∀b o x,M b o=some x→b<w.heap.size:=fun b o x hx=>World.block_lt_of_cell? w ⟨b,o,none⟩ (hM b o x hx)
 refine⟨h.os,h.tape,h.output,h.size,h.old,fun _ _ _ h=>h,?_,fun _ _ _ h => .inl h,fun r=>?_⟩
 ·intro b o x hx
  rw[World.cell?_of_block (w:=w) (h.old _ (hlt b o x hx))]
  exact hM b o x hx
 ·obtain⟨ls,hl,hv,hb,hi⟩:=h.res r
  obtain⟨new,h1,h2,h3⟩:=Jj r depth y [] ho
  refine⟨ls,hl,h3 M' M _ v hv,fun k l b hk hbk=>?_,hi⟩
  obtain⟨hbo,hge⟩:=hb k l b hk hbk
  have hmem:b∈new:=by rw[h1,List.nil_append]at hbk;exact List.mem_of_getElem? hbk
  obtain⟨e1,e2,e3,e4⟩:=h2 b hmem
  have hfz : ∀o x,M l.b o=some x→b.jb=true∧o<b.es.length * b.esz:=fun o x hx=>absurd (hlt _ _ _ hx) (Nat.not_lt.2 hge)
  refine⟨⟨hbo.esz,fun hz=>?_,fun hz=>by omega,hfz⟩,hge⟩
  obtain⟨c1,⟨arr,T,fz,d1,d2,d3,d4⟩,c3,c4,_⟩:=hbo.cellsOk hz
  refine⟨c1,⟨arr,T,fz,d1,d2,d3,fun i j e x he hx=>?_⟩,c3,c4,hfz⟩
  obtain⟨u,f1,f2,f3⟩:=d4 i j e x he hx
  exact⟨u,f1,f2,JN (e4 e (List.mem_of_getElem? he)) hx f3⟩
theorem Ay{P:Program}{f:FuncId}(hf : ∃fn,P.funcs[f]?=some fn∧(fn.name == "runtime.NumGoroutine")=false∧fn.body.isSome=true)(args:Array Value)(w:World) :
 (callFunc f args).run P w = .ok (.enter f args) w:=by
 obtain⟨fn,h1,h2,h3⟩:=hf
 have hn:fn.body≠none:=by intro e;rw[e]at h3;cases h3
 have hne:fn.name ≠ "runtime.NumGoroutine" := by simpa using h2
 simp[callFunc,h1,hne,hn]
theorem z7{P:Program}{a:Act}{o:Oper}{c:Call}{fo:Operand}(ho:o.op = .call c)(hc:c.callee = .value fo){f:FuncId}{first captured:Array Value}(hfv:a.eval fo = .func (.func f) first captured)
 (hf : ∃fn,P.funcs[f]?=some fn∧(fn.name == "runtime.NumGoroutine")=false∧fn.body.isSome=true) (w:World) :
 (execOp a.eval o).run P w = .ok (.enter f (first++c.args.map a.eval++captured)) w:=by
 simp[execOp,ho,resolve,hc,hfv,Deferred.ofValue,invoke,Ay hf]
theorem Gp{M ι g w}(hS:fh M ι g w){xs ys:List AV}{us:List Value}(h:xs.mapM (view g depth)=some ys)(hx:jC M ι xs us):jC (kQ M ι g w (ck g xs)) ed ys us :=
 ⟨by rw[gY h];exact hx.1,fun i y u hy hu=>by
  obtain⟨x,hx',hf⟩:=nM h i y hy
  refine xR hS depth x y u hf ?_ (hx.2 i x u hx' hu)
  intro r hr
  exact List.mem_flatMap.2 ⟨x,List.mem_of_getElem? hx',hr⟩⟩
theorem VR.Q6{M ι}{f:FuncId}{a b:List AV}{u:Value}(h:VR M ι (.fn (.func f) a b) u) : ∃a' b',u = .func (.func f) a' b'∧jC M ι a a'.toList∧jC M ι b b'.toList:=by
 cases h with | fn ha hb hh hh' =>
 exact⟨_,_,rfl,⟨by simpa using ha,fun i x u hx hu=>hh i x u hx (by simpa using hu)⟩,⟨by simpa using hb,fun i x u hx hu=>hh' i x u hx (by simpa using hu)⟩⟩
theorem BM(a b c:Array Value):(a.toList++b.toList++c.toList).toArray=a++b++c:=by
 apply Array.ext';simp
section
variable{E:Env}{M:Mem}{ι:Map}{g:dk}{w:World}{r:Ref}{a:Act}{tm:List AV}{o:Oper}
theorem NN(hS:fh M ι g w)(hT:TR M ι tm a)(hq : ∀k,ι { r with k:=k}=none){pc:FuncId→List AV→Option AV}(hpc : ∀f xs y,pc f xs=some y→iL E.P f xs y)
 {c:Call} {fo:Operand} (ho:o.op = .call c) (hc:c.callee = .value fo) {args:List AV} (hargs:c.args.toList.mapM (aZ tm)=some args) {x:AV} {bs:List bN} (h:ik E pc g r (aZ tm fo) args=some (x,bs)) :
 eC E.P o a w fun u w'=>gI M ι g w r x bs u w':=by
 unfold ik at h
 split at h
 ·rename_i fi first captured hfo
  split at h
  ·cases h
  ·split at h
   ·rename_i xs hxs
    split at h
    ·rename_i y hy
     obtain⟨hcond,h⟩:=Option.ite_none_right_eq_some.1 h
     injection h with h
     obtain⟨hf,hpure⟩:=hpc fi xs y hy
     obtain⟨a',b',hfv,hva,hvb⟩:=(bn hT hfo).Q6
     have hvargs:=kV hT hargs
     have hall:jC M ι (first++args++captured) (a'.toList++(c.args.map a.eval).toList++b'.toList):=(hva.append (by simpa using hvargs)).append hvb
     obtain⟨hS1,hF1⟩:=vm (R:=ck g (first++args++captured)) hS
     have hviews:=Gp hS hxs hall
     have hcall:=hpure (kQ M ι g w (ck g (first++args++captured))) w _ (tS hS.mem) hviews
     rw[BM]at hcall
     refine eC.Cb (z7 ho hc hfv hf w) (hcall.mono fun e w' ⟨v,M',he,hend⟩=>⟨v,he,?_⟩)
     by_cases hfl:flat depth y=true
     ·have hi:=ry r depth depth y [] hfl
      rw[hi]at h
      injection h with h1 h2
      subst h1;subst h2
      exact D4 hS hfl hend
     ·by_cases how:yC depth y=true
      ·have:=C7 hS hq (hend.own hS.mem how)
       rw[h]at this
       exact this
      have hfr:ic g (ck g (first++args++captured))=true:=by
       simp only[Bool.or_eq_true,Bool.and_eq_true]at hcond
       rcases hcond with (hc | hc) | hc
       ·exact absurd hc hfl
       ·exact hc
       ·exact absurd hc.2 how
      have hfz:=HN hfr
      rw[hfz]at hS1
      have:=C7 hS1 hq hend
      rw[h]at this
      exact gI.after hfz hS this
    ·cases h
   ·cases h
 ·cases h
theorem Gl{H:ab}{d tt:Nat}(hS:fh M ι H.get w)(hD:pB ι H)(hT:TR M ι tm a){pc:FuncId→List AV→Option AV}(hpc : ∀f xs y,pc f xs=some y→iL E.P f xs y)
 {tc:sn→List AV→ab→dz} (htc : ∀f xs H y H',tc f xs H=some (y,H')→nc E.P f xs H y H')
 {c:Call} {fo:Operand} (ho:o.op = .call c) (hc:c.callee = .value fo) {args:List AV} (hargs:c.args.toList.mapM (aZ tm)=some args) {x:AV} {H':ab}
 (h:kJ E pc tc H ⟨d,tt,H.gen d tt,0⟩ (aZ tm fo) args=some (x,H')):eC E.P o a w fun u w'=>qI M ι H w x H' u w':=by
 unfold kJ at h
 split at h
 ·rename_i fi first captured hfo
  obtain⟨a',b',hfv,hva,hvb⟩:=(bn hT hfo).Q6
  have hvargs:=kV hT hargs
  have hall:jC M ι (first++args++captured) (a'.toList++(c.args.map a.eval).toList++b'.toList):=(hva.append (by simpa using hvargs)).append hvb
  split at h
  ·obtain⟨hf,hthr⟩:=htc _ _ _ _ _ h
   have hcall:=hthr M ι w _ hS hD hall
   rw[BM]at hcall
   exact eC.Cb (z7 ho hc hfv hf w) (hcall.mono fun e w' ⟨v,he,hend⟩=>⟨v,he,hend⟩)
  ·split at h
   ·rename_i xs hxs
    simp only[Option.map_eq_some_iff]at h
    obtain⟨y,hy,h⟩:=h
    injection h with h1 h2
    obtain⟨hf,hpure⟩:=hpc fi xs y hy
    obtain⟨hS1,hF1⟩:=vm (R:=ck H.get (first++args++captured)) hS
    have hviews:=Gp hS hxs hall
    have hcall:=hpure (kQ M ι H.get w (ck H.get (first++args++captured))) w _ (tS hS.mem) hviews
    rw[BM]at hcall
    refine eC.Cb (z7 ho hc hfv hf w) (hcall.mono fun e w' ⟨v,M',he,hend⟩=>⟨v,he,?_⟩)
    have hD1:pB ι (cq H (ck H.get (first++args++captured))):=by
     intro q l hq
     rw[ab.il]
     exact hD q l hq
    have hout:=C7 (r:=⟨d,tt,H.gen d tt,0⟩) hS1 (fun k=>hD.fresh d tt k) hend
    rw[←ab.eg]at hout
    have hgen:H.gen d tt=(cq H (ck H.get (first++args++captured))).gen d tt:=(ab.il _ _ _ _).symm
    have key:qI (kQ M ι H.get w (ck H.get (first++args++captured))) ι (cq H (ck H.get (first++args++captured))) w x H' v w':=by
     subst h1;subst h2
     rw[hgen]at hout ⊢
     exact hout.YP hD1
    obtain⟨M2,ι2,k1,k2,k3,k4⟩:=key
    refine⟨M2,ι2,k1,k2,?_,k4⟩
    rw[←ab.eg]at hF1
    exact hF1.trans k3
   ·cases h
 ·rename_i q hfo
  have hvargs:=kV hT hargs
  have hy:=bn hT hfo
  generalize hu:a.eval fo=u at hy
  cases hy with | yld hr hz =>
  rename_i l
  obtain⟨fn,tmps,assign,body,hy,hround⟩:=htc _ _ _ _ _ h M ι w _ l hS hD hvargs hr
  refine eC.N1 (l:=l.b) ?_ hround
  have e1:(c.args.map a.eval:Array Value)=(c.args.toList.map a.eval).toArray:=by rw[←Array.toList_inj];simp
  rw[←e1]at hy
  simp[execOp,ho,resolve,hc,hu,Deferred.ofValue,invoke,hy]
 ·cases h
end
end Go.Ab
namespace Go.Ab
theorem VR.cut{M M':Mem}{ι:Map}{e:AV}{u0:Value}(h0:VR M ι e u0) : ∀ {ι':Map} {u:Value},VR M' ι' e u→(∀q l,ι q=some l→ι' q=some l)→VR M' ι e u:=by
 induction h0 with
 | v h=>intro ι' u h hi;cases h with | v hs=>exact .v hs
 | agg hl _ ih =>
  intro ι' u h hi
  cases h with | agg hl' hh =>
  refine .agg hl' fun i c u hc hu=>?_
  have hlt:=(List.getElem?_eq_some_iff.1 hc).1
  exact ih i c _ hc (Array.getElem?_eq_getElem (by omega)) (hh i c u hc hu) hi
 | tup hz hl _ ih =>
  intro ι' u h hi
  cases h with | tup h0' hl' hh =>
  refine .tup h0' hl' fun i c u hc hu=>?_
  have hlt:=(List.getElem?_eq_some_iff.1 hc).1
  exact ih i c _ hc (Array.getElem?_eq_getElem (by omega)) (hh i c u hc hu) hi
 | cw cell hs hc hk hm he _ ih =>
  intro ι' u h hi
  cases h with | cw cell hs hc hk hm he hh=>exact .cw cell hs hc hk hm he hh
 | cM hr hb hs ha hc hn hk hz =>
  intro ι' u h hi
  have h1:=hi _ _ hr
  cases h with | cM hr' hb' hs' ha' hc' hn' hk' hz' =>
  rw[h1]at hr'
  cases hr'
  exact .cM hr hb' hs' ha' hc' hn' hk' hz'
 | ptr hr hz =>
  intro ι' u h hi
  have h1:=hi _ _ hr
  cases h with | ptr hr' hz' =>
  rw[h1]at hr'
  cases hr'
  exact .ptr hr hz'
 | iptr cell hm he _ ih =>
  intro ι' u h hi
  cases h with | iptr cell hm he hh=>exact .iptr cell hm he hh
 | fn ha hb _ _ ih ih' =>
  intro ι' u h hi
  cases h with | fn ha' hb' hh hh' =>
  refine .fn ha' hb' (fun i c u hc hu=>?_) fun i c u hc hu=>?_
  ·have hlt:=(List.getElem?_eq_some_iff.1 hc).1
   exact ih i c _ hc (Array.getElem?_eq_getElem (by omega)) (hh i c u hc hu) hi
  ·have hlt:=(List.getElem?_eq_some_iff.1 hc).1
   exact ih' i c _ hc (Array.getElem?_eq_getElem (by omega)) (hh' i c u hc hu) hi
 | ifc _ ih=>intro ι' u h hi;cases h with | ifc hh=>exact .ifc (ih hh hi)
 | yld hr hz =>
  intro ι' u h hi
  have h1:=hi _ _ hr
  cases h with | yld hr' hz' =>
  rw[h1]at hr'
  cases hr'
  exact .yld hr hz'
 | mp hr hz =>
  intro ι' u h hi
  have h1:=hi _ _ hr
  cases h with | mp hr' hz' =>
  rw[h1]at hr'
  cases hr'
  exact .mp hr hz'
 | ch hr hz =>
  intro ι' u h hi
  have h1:=hi _ _ hr
  cases h with | ch hr' hz' =>
  rw[h1]at hr'
  cases hr'
  exact .ch hr hz'
section
variable{M M':Mem}{ι ι':Map}{w w':World}{l:Loc}{k:bN}
theorem eX.cut(c0:eX M ι w l k)(c:eX M' ι' w' l k)(hi : ∀q l,ι q=some l→ι' q=some l):eX M' ι w' l k:=by
 obtain⟨arr0,_,_,_,_,_,h0⟩:=c0.heap
 obtain⟨arr,T,fz,h1,h2,h3,h4⟩:=c.heap
 refine⟨c.esz,⟨arr,T,fz,h1,h2,h3,fun i j e x he hx=>?_⟩,c.len,c.cells,c.frozen⟩
 obtain⟨u0,_,_,v0⟩:=h0 i j e x he hx
 obtain⟨u,a1,a2,v1⟩:=h4 i j e x he hx
 refine⟨u,a1,a2,v0.cut v1 ?_⟩
 unfold bN.map
 split
 ·exact fun _ _ h=>h
 ·exact hi
theorem Di.cut(c0:Di M ι w l k)(c:Di M' ι' w' l k)(hi : ∀q l,ι q=some l→ι' q=some l):Di M' ι w' l k:=by
 obtain⟨n0,nt0,ps0,as0,bd0,tm0,r0,_,_,e0,_,_,_,_,_,v0,_⟩:=c0
 obtain⟨n,nt,ps,as,bd,tm,r,h1,h2,e,h3,h4,h5,h6,h7,v,h8⟩:=c
 rw[e]at e0
 simp only[List.cons.injEq,AV.lp.injEq]at e0
 obtain⟨_,⟨_,_,_,_,_,rfl⟩,_⟩:=e0
 exact⟨n,nt,ps,as,bd,tm,r,h1,h2,e,h3,h4,h5,h6,h7,fun t=>(v0 t).cut (v t) hi,h8⟩
theorem ID.cut(c0:ID M ι w l k)(c:ID M' ι' w' l k)(hi : ∀q l,ι q=some l→ι' q=some l):ID M' ι w' l k:=by
 obtain⟨ents0,entries0,_,_,e0,_,s0,v0⟩:=c0
 obtain⟨ents,entries,h1,h2,e,h3,s,v⟩:=c
 rw[e]at e0
 simp only[List.cons.injEq,true_and]at e0
 subst e0
 refine⟨ents,entries,h1,h2,e,h3,s,fun i ent en hent hen=>?_⟩
 obtain⟨ka,va,q1,q2,q3,q4⟩:=v i ent en hent hen
 have hlt:=(List.getElem?_eq_some_iff.1 hent).1
 obtain⟨ka0,va0,p1,_,p3,_⟩:=v0 i ent _ hent (Array.getElem?_eq_getElem (by omega))
 rw[q1]at p1
 simp only[AV.tup.injEq,List.cons.injEq]at p1
 obtain⟨_,rfl,_⟩:=p1
 exact⟨ka,va,q1,q2,p3.cut q3 hi,q4⟩
theorem Dk.cut(c0:Dk M ι w l k)(c:Dk M' ι' w' l k)(hi : ∀q l,ι q=some l→ι' q=some l):Dk M' ι w' l k:=by
 obtain⟨_,_,_,_,buf0,arr0,_,_,e0,_,s0,v0⟩:=c0
 obtain⟨cap,s,r,cl,buf,arr,h1,h2,e,h3,hs,v⟩:=c
 rw[e]at e0
 simp only[List.cons.injEq,true_and]at e0
 obtain⟨_,_,rfl⟩:=e0
 refine⟨cap,s,r,cl,buf,arr,h1,h2,e,h3,hs,fun i x u hx hu=>?_⟩
 have hlt:=(List.getElem?_eq_some_iff.1 hx).1
 exact(v0 i x _ hx (Array.getElem?_eq_getElem (by omega))).cut (v i x u hx hu) hi
theorem kU.cut(c0:kU M ι w l k)(c:kU M' ι' w' l k)(hi : ∀q l,ι q=some l→ι' q=some l):kU M' ι w' l k:=by
 rcases c0 with c0 | c0 | c0<;>rcases c with c | c | c
 ·exact .inl (c0.cut c hi)
 ·obtain⟨_,_,_,_,_,_,_,_,_,e0,_⟩:=c0
  obtain⟨_,_,_,_,e,_⟩:=c
  rw[e]at e0;simp at e0
 ·obtain⟨_,_,_,_,_,_,_,_,_,e0,_⟩:=c0
  obtain⟨_,_,_,_,_,_,_,_,e,_⟩:=c
  rw[e]at e0;simp at e0
 ·obtain⟨_,_,_,_,_,_,_,_,_,e0,_⟩:=c
  obtain⟨_,_,_,_,e,_⟩:=c0
  rw[e]at e0;simp at e0
 ·exact .inr (.inl (c0.cut c hi))
 ·obtain⟨_,_,_,_,e0,_⟩:=c0
  obtain⟨_,_,_,_,_,_,_,_,e,_⟩:=c
  rw[e]at e0;simp at e0
 ·obtain⟨_,_,_,_,_,_,_,_,_,e0,_⟩:=c
  obtain⟨_,_,_,_,_,_,_,_,e,_⟩:=c0
  rw[e]at e0;simp at e0
 ·obtain⟨_,_,_,_,e0,_⟩:=c
  obtain⟨_,_,_,_,_,_,_,_,e,_⟩:=c0
  rw[e]at e0;simp at e0
 ·exact .inr (.inr (c0.cut c hi))
theorem mb.cut(c0:mb M ι w l k)(c:mb M' ι' w' l k)(hi : ∀q l,ι q=some l→ι' q=some l):mb M' ι w' l k :=
 ⟨c.esz,fun h=>(c0.cellsOk h).cut (c.cellsOk h) hi,fun h=>(c0.objOk h).cut (c.objOk h) hi,c.frozen⟩
theorem Lx{H H':ab}(hS:fh M ι H.get w)(hD:pB ι H){y:AV}{v:Value}(hf:flat depth y=true)(hk : ∀q k,H.get q=some k→H'.get q=some k)(h:qI M ι H w y H' v w'):qI M ι H w y H v w':=by
 obtain⟨M1,ι1,hv,hS',hF,hD'⟩:=h
 refine⟨M1,ι,wy depth y v hf hv,⟨hS'.mem,fun q k hq=>?_,hS.inj⟩,⟨hF.os,hF.tape,hF.output,hF.size,hF.chg,hF.mem,fun _ _ h=>h,fun q k l h1 h2 => .inr ⟨q,k,l,h1,h2,rfl⟩,hF.new⟩,hD⟩
 obtain⟨l,hl,hb⟩:=hS.live q k hq
 obtain⟨l',hl',hb'⟩:=hS'.live q k (hk q k hq)
 have:=hF.map q l hl
 rw[this]at hl'
 cases hl'
 exact⟨l,hl,hb.cut hb' hF.map⟩
theorem Gn{u v:Value}(h:J9 u v=true):u=v:=by
 unfold J9 at h
 split at h
 ·simp at h;rw[h]
 ·simp at h;rw[h.1,h.2]
 ·simp at h;rw[h]
 ·simp only[Bool.and_eq_true]at h
  rw[Nat.eq_of_beq_eq_true h.1,Nat.eq_of_beq_eq_true h.2]
 ·rfl
 ·rfl
 ·cases h
theorem od{f:AV→AV→Bool}(hf : ∀x y,f x y=true→x=y) : ∀(xs ys:List AV),xs.length=ys.length→((xs.zip ys).all fun p=>f p.1 p.2)=true→xs=ys:=by
 intro xs
 induction xs with
 | nil=>intro ys h _;exact(List.eq_nil_of_length_eq_zero h.symm).symm
 | cons x xs ih =>
  intro ys h ha
  cases ys with
  | nil=>simp at h
  | cons y ys =>
   simp only[List.zip_cons_cons,List.all_cons,Bool.and_eq_true]at ha
   rw[hf x y ha.1,ih ys (by simpa using h) ha.2]
theorem yt{r r':Ref}(h:Ew r r'=true):r=r':=by
 unfold Ew at h
 simp only[Bool.and_eq_true]at h
 cases r;cases r'
 simp only[Ref.mk.injEq]
 exact⟨Nat.eq_of_beq_eq_true h.1.2,Nat.eq_of_beq_eq_true h.1.1.1,Nat.eq_of_beq_eq_true h.1.1.2,Nat.eq_of_beq_eq_true h.2⟩
theorem OV : ∀(n:Nat)(x y:AV),wX n x y=true→x=y:=by
 intro n
 induction n with
 | zero=>intro x y h;simp[wX]at h
 | succ n ih =>
  intro x y h
  unfold wX at h
  split at h
  ·rw[Gn h]
  ·simp only[Bool.and_eq_true]at h
   rw[od ih _ _ (Nat.eq_of_beq_eq_true h.1) h.2]
  ·simp only[Bool.and_eq_true]at h
   rw[od ih _ _ (Nat.eq_of_beq_eq_true h.1) h.2]
  ·simp only[Bool.and_eq_true,decide_eq_true_eq]at h
   rw[od ih _ _ (Nat.eq_of_beq_eq_true h.1.2) h.2,Nat.eq_of_beq_eq_true h.1.1.1,h.1.1.2]
  ·simp only[Bool.and_eq_true,decide_eq_true_eq]at h
   rw[yt h.1.1.1,Nat.eq_of_beq_eq_true h.1.1.2,Nat.eq_of_beq_eq_true h.1.2,h.2]
  ·simp only[Bool.and_eq_true]at h
   rw[yt h.1.1,Nat.eq_of_beq_eq_true h.1.2,Nat.eq_of_beq_eq_true h.2]
  ·rw[yt h]
  ·rw[yt h]
  ·simp only[Bool.and_eq_true]at h
   rw[Nat.eq_of_beq_eq_true h.1.1,od ih _ _ (Nat.eq_of_beq_eq_true h.1.2.1) h.1.2.2,od ih _ _ (Nat.eq_of_beq_eq_true h.2.1) h.2.2]
  ·simp only[Bool.and_eq_true]at h
   rw[Nat.eq_of_beq_eq_true h.1,ih _ _ h.2]
  ·cases h
theorem J2{k k':bN}(h:F8 k k'=true):k=k':=by
 unfold F8 at h
 simp only[Bool.and_eq_true,beq_iff_eq]at h
 cases k;cases k'
 simp only[bN.mk.injEq]
 exact⟨Nat.eq_of_beq_eq_true h.1.1.1.1,od (OV 8) _ _ (Nat.eq_of_beq_eq_true h.1.2) h.2,h.1.1.1.2,h.1.1.2⟩
theorem get_mem : ∀(H:ab)(q:Ref)(k:bN),H.get q=some k →∃b,(q,b)∈H:=by
 intro H
 induction H with
 | nil=>intro q k h;cases h
 | cons p H ih =>
  obtain⟨r,b⟩:=p
  intro q k h
  simp only[ab.get]at h
  split at h
  ·rename_i e;subst e;exact⟨b,List.mem_cons_self ..⟩
  ·obtain⟨b',hb⟩:=ih q k h
   exact⟨b',List.mem_cons_of_mem _ hb⟩
theorem HJ{H H':ab}(h:CB H H'=true)(q:Ref)(k:bN)(hq:H.get q=some k):H'.get q=some k:=by
 obtain⟨b,hb⟩:=get_mem H q k hq
 have:=List.all_eq_true.1 h _ hb
 simp only[hq]at this
 split at this
 ·cases this
 ·rename_i k' hk'
  rw[hk',J2 this]
theorem Gi{b:Bool}{sm:IB}{H H':ab}{res:dz}{y:AV}(h:m3 b sm H res=some (y,H')):res=some (y,H') ∨∃H1,H'=H∧res=some (y,H1)∧flat depth y=true ∧∀q k,H.get q=some k→H1.get q=some k:=by
 unfold m3 at h
 split at h
 ·rename_i y1 H1
  obtain⟨hc,h⟩:=Option.ite_none_right_eq_some.1 h
  cases h
  exact .inr ⟨H1,rfl,rfl,(Bool.and_eq_true_iff.1 hc).1,(Bool.or_eq_true_iff.1 (Bool.and_eq_true_iff.1 hc).2).elim HJ (sm.ok _ _)⟩
 ·exact .inl h
end
end Go.Ab
namespace Go.Ab
theorem lN(l:List AV)(d t:Nat)(x:AV):cU (tn l d x) t=if t=d then x else cU l t:=by
 induction l generalizing d t with
 | nil =>
  induction d generalizing t with
  | zero=>cases t<;>simp[tn,cU]
  | succ d ih =>
   cases t with
   | zero=>simp[tn,cU]
   | succ t=>simp[tn,cU,ih]
 | cons y l ih =>
  cases d with
  | zero=>cases t<;>simp[tn,cU]
  | succ d =>
   cases t with
   | zero=>simp[tn,cU]
   | succ t=>simp[tn,cU,ih]
theorem TR.put{M ι tm a}(hT:TR M ι tm a){nt:Nat}(hn:a.tmps.size=nt){dst:Option Tmp}{x:AV}{tm':List AV}(h:dq nt tm dst x=some tm'){u:Value}(hx:VR M ι x u) :
 TR M ι tm' (a.put dst u)∧(a.put dst u).tmps.size=nt:=by
 unfold dq at h
 split at h
 ·injection h with h
  subst h
  exact⟨hT,hn⟩
 ·rename_i d
  obtain⟨hd,h⟩:=Option.ite_none_right_eq_some.1 h
  injection h with h
  subst h
  refine⟨⟨?_⟩,by simp[Act.put,hn]⟩
  intro t
  rw[lN]
  simp only[Act.put,Array.getD_eq_getD_getElem?]
  by_cases htd:t=d
  ·subst htd
   rw[if_pos rfl,Array.getElem?_setIfInBounds_self_of_lt (by rw[hn];exact hd)]
   exact hx
  ·rw[if_neg htd,Array.getElem?_setIfInBounds_ne (Ne.symm htd),←Array.getD_eq_getD_getElem?]
   exact hT.at_ t
theorem iZ{M ι tm a}(hT:TR M ι tm a){ops:Array Oper}{o:Oper}{b:Bool}(h:wanted ops tm o=some b):Region.wanted o (yielded ops a.tmps)=b:=by
 unfold wanted at h
 unfold Region.wanted
 split at h
 ·rename_i hg
  injection h with h
  subst h
  rw[hg]
 ·rename_i j want hg
  rw[hg]
  simp only
  split at h
  ·rename_i t ht
   have hv:=hT.at_ t
   rw[Array.getD_eq_getD_getElem?]at hv
   split at h
   ·rename_i c hc
    injection h with h
    subst h
    rw[hc]at hv
    have:a.tmps[t]?=some (.bool c):=by
     cases hh:a.tmps[t]? with
     | none=>rw[hh]at hv;cases hv
     | some v=>rw[hh]at hv;simp only[Option.getD_some]at hv;cases hv;rfl
    simp only[yielded,ht,Option.bind_some,this]
    cases c<;>cases want<;>rfl
   ·rename_i vs hc
    rw[hc]at hv
    obtain⟨hx,h⟩:=Option.ite_none_right_eq_some.1 h
    injection h with h
    subst h
    have hxx:vs = #[]:=by simpa using hx
    subst hxx
    have:yielded ops a.tmps j=none:=by
     simp only[yielded,ht,Option.bind_some]
     cases hh:a.tmps[t]? with
     | none=>rfl
     | some v =>
      rw[hh]at hv
      simp only[Option.getD_some]at hv
      cases hv
      rfl
    rw[this]
    rfl
   ·cases h
  ·rename_i ht
   injection h with h
   subst h
   simp only[yielded,ht,Option.bind_none]
   rfl
section
variable{E:Env}{M:Mem}{ι:Map}{g:dk}{w:World}{r:Ref}{a:Act}{tm:List AV}{o:Oper}
theorem nK{x:Option AV}{y:AV}{bs:List bN}(h:cF x=some (y,bs)):x=some y∧bs=[]:=by
 simp only[cF,Option.map_eq_some_iff]at h
 obtain⟨z,hz,h⟩:=h
 injection h with h1 h2
 exact⟨by rw[hz,h1],h2.symm⟩
theorem eC.same{s:Sem Value}(hS:fh M ι g w)(he : ∀ρ,ρ=a.eval→execOp ρ o=(do pure (Next.value (←s)))){x:AV}{bs:List bN}(h:bs=[] ∧∃u,s.run E.P w = .ok u w∧VR M ι x u) :
 eC E.P o a w fun u w'=>gI M ι g w r x bs u w':=by
 obtain⟨rfl,u,hr,hv⟩:=h
 exact eC.of_run (by rw[he a.eval rfl];exact Ev hr) (gI.same hS hv)
theorem eC.made{s:Sem Value}(he : ∀ρ,ρ=a.eval→execOp ρ o=(do pure (Next.value (←s)))){x:AV}{bs:List bN}(h : ∃u w',s.run E.P w = .ok u w'∧gI M ι g w r x bs u w') :
 eC E.P o a w fun u w'=>gI M ι g w r x bs u w':=by
 obtain⟨u,w',hr,hv⟩:=h
 exact eC.of_run (by rw[he a.eval rfl];exact Ev hr) hv
theorem p7(ps:Array (Nat × Operand))(ρ:Operand→Value):(ps.map fun(p:Nat × Operand)=>(p.1,ρ p.2)).toList=ps.toList.map fun p=>(p.1,ρ p.2):=by simp
theorem FH{α:Type}{l:List α}(h:l.length=1) : ∃a,l=[a]:=List.length_eq_one_iff.1 h
theorem uK{α:Type}{l:List α}(h:l.length=2) : ∃a b,l=[a,b]:=by
 match l,h with
 | [a,b],_=>exact⟨a,b,rfl⟩
theorem eC.mono{P:Program}{Q Q':Value→World→Prop}(h:eC P o a w Q)(hQ : ∀u w',Q u w'→Q' u w'):eC P o a w Q' :=
 fun ro K R hK=>h ro K R fun u w' hq=>hK u w' (hQ u w' hq)
theorem eX.jb{l:Loc}{k:bN}(h:eX M ι w l k):eX M ι w l { k with jb:=true} :=
 ⟨h.esz,h.heap,h.len,h.cells,fun o x hx=>⟨rfl,(h.frozen o x hx).2⟩⟩
theorem mb.jb{l:Loc}{k:bN}(h:mb M ι w l k):mb M ι w l { k with jb:=true} :=
 ⟨h.esz,fun hz=>(h.cellsOk hz).jb,fun hz=>(h.objOk hz).same rfl rfl rfl,fun o x hx=>⟨rfl,(h.frozen o x hx).2⟩⟩
theorem zp{bs:List bN}{q:Ref}{b':bN}(h:oV g r (bs.map fun k => { k with jb:=true}) q=some b') : ∃b,oV g r bs q=some b∧(b'=b∨b' = { b with jb:=true}):=by
 unfold oV at h ⊢
 simp only[List.length_map]at h
 split at h
 ·rename_i hc
  rw[if_pos hc]
  simp only[List.getElem?_map,Option.map_eq_some_iff]at h
  obtain⟨b,hb,e⟩:=h
  exact⟨b,hb,.inr e.symm⟩
 ·rename_i hc
  rw[if_neg hc]
  exact⟨b',h,.inl rfl⟩
theorem gI.vn{x:AV}{bs:List bN}{b:Bool}{u:Value}{w':World}(h:gI M ι g w r x bs u w'):gI M ι g w r x (Ab.vn b bs) u w':=by
 cases b with
 | false=>exact h
 | true =>
  obtain⟨M',ι',h1,h2,h3,h4⟩:=h
  refine⟨M',ι',h1,⟨h2.mem,fun q k hq=>?_,fun q q' k k' l l' a1 a2 a3 a4 a5=>?_⟩,⟨h3.os,h3.tape,h3.output,h3.size,h3.chg,h3.mem,h3.map,fun q k l a1 a2=>?_,h3.new⟩,fun q hq hk=>h4 q hq fun k hlt=>hk k (by simpa [Ab.vn] using hlt)⟩
  ·obtain⟨b,hb,e⟩:=zp hq
   obtain⟨l,hl,hbk⟩:=h2.live q b hb
   rcases e with rfl | rfl
   ·exact⟨l,hl,hbk⟩
   ·exact⟨l,hl,hbk.jb⟩
  ·obtain⟨b1,hb1,_⟩:=zp a1
   obtain⟨b2,hb2,_⟩:=zp a2
   exact h2.inj q q' b1 b2 l l' hb1 hb2 a3 a4 a5
  ·obtain⟨b1,hb1,_⟩:=zp a1
   exact h3.live q b1 l hb1 a2
def xP(P:Program)(f:FuncId)(t:TypeId):Prop :=
 ∃fn tR,P.funcs[f]?=some fn∧(fn.name == "runtime.NumGoroutine")=false∧fn.body.isNone=true∧Extern.findNext fn=none∧Extern.find fn=some (Extern.SlicesOverlaps.overlaps #[t,t] #[tR])
theorem sO(hS:fh M ι g w)(hT:TR M ι tm a)(hr:r.k=0)(hq : ∀k,ι { r with k:=k}=none){pc:FuncId→List AV→Option AV}(hpc : ∀f xs y,pc f xs=some y→iL E.P f xs y)
 {draw:Bool} (hov:draw=false →∀f t,E.pP f=some t→xP E.P f t) {x:AV} {bs:List bN} (h:cB E pc draw g tm r o=some (x,bs)):eC E.P o a w fun u w'=>gI M ι g w r x bs u w':=by
 have hq0:ι r=none:=by have:=hq 0;rwa [show({ r with k:=0}:Ref)=r by cases r;simp_all]at this
 unfold cB at h
 split at h
 ·
  rename_i y hop
  obtain⟨hy,rfl⟩:=nK h
  exact eC.of_run (u:=a.eval y) (w':=w) (by simp[execOp,hop]) (gI.same hS (bn hT hy))
 ·
  rename_i y hop
  obtain⟨hy,rfl⟩:=nK h
  exact eC.of_run (u:=a.eval y) (w':=w) (by simp[execOp,hop]) (gI.same hS (bn hT hy))
 ·
  rename_i c y z hop
  obtain⟨rfl,u,hr',hv⟩:=ND (P:=E.P) (w:=w) hT h
  refine eC.of_run (u:=u) (w':=w) ?_ (gI.same hS hv)
  simp only[execOp,hop]
  simp only[Sem.run_bind]at hr' ⊢
  cases hc:(asBool (a.eval c)).run E.P w with
  | ok b w1 =>
   rw[hc]at hr'
   simp only[Result.andThen_ok,Sem.run_pure]at hr' ⊢
   injection hr' with h1 h2
   rw[h1,h2]
  | halt hh w1=>rw[hc]at hr';cases hr'
 ·
  rename_i e hop
  exact eC.made (fun ρ hρ=>by simp only[execOp,hop]) (LG hS hr hq0 h)
 ·
  rename_i e y hop
  cases hy:aZ tm y with
  | none=>rw[hy]at h;simp[cD]at h
  | some y' =>
   rw[hy]at h
   exact eC.made (fun ρ hρ=>by simp only[execOp,hop,hρ]) (Qu hS hr hq0 (bn hT hy) h)
 ·
  rename_i t ps hop
  cases hv:ga tm ps.toList with
  | none=>rw[hv]at h;simp only[cK]at h;split at h<;>first | cases h | (rename_i h1 h2;cases h2)
  | some vs =>
   rw[hv]at h
   obtain⟨h1,h2⟩:=pV (ι:=ι) hT hv
   refine eC.same hS (s:=Instr.build t (ps.map fun(p:Nat × Operand)=>(p.1,a.eval p.2))) (fun ρ hρ=>by simp only[execOp,hop,hρ]) (LF ?_ ?_ h)
   ·rw[p7];exact h1
   ·rw[p7];exact h2
 ·
  rename_i t n ps hop
  cases hv:ga tm ps.toList with
  | none=>rw[hv]at h;simp[fG]at h
  | some vs =>
   rw[hv]at h
   obtain⟨h1,h2⟩:=pV (ι:=ι) hT hv
   refine eC.made (s:=Instr.buildSlice t n (ps.map fun(p:Nat × Operand)=>(p.1,a.eval p.2))) (fun ρ hρ=>by simp only[execOp,hop,hρ]) (B7 hS hr hq0 h ?_ ?_)
   ·rw[p7];exact h1
   ·rw[p7];exact h2
 ·
  rename_i t y hop
  cases hy:aZ tm y with
  | none=>rw[hy]at h;simp[aj]at h
  | some y' =>
   rw[hy]at h
   exact eC.same hS (fun ρ hρ=>by simp only[execOp,hop,hρ]) (NH hS (bn hT hy) h)
 ·
  rename_i y hop
  unfold jX at h
  split at h
  ·rename_i r' i j hy
   injection h with h;injection h with h1 h2;subst h1;subst h2
   have hv:=bn hT hy
   refine eC.of_run (u:=a.eval y) (w':=w) ?_ (gI.same hS hv)
   generalize hu:a.eval y=u at hv
   cases hv
   simp[execOp,hop,hu]
  ·rename_i n es i j hy
   injection h with h;injection h with h1 h2;subst h1;subst h2
   have hv:=bn hT hy
   refine eC.of_run (u:=a.eval y) (w':=w) ?_ (gI.same hS hv)
   generalize hu:a.eval y=u at hv
   cases hv
   simp[execOp,hop,hu]
  ·rename_i f b c hy
   injection h with h;injection h with h1 h2;subst h1;subst h2
   have hv:=bn hT hy
   refine eC.of_run (u:=a.eval y) (w':=w) ?_ (gI.same hS hv)
   generalize hu:a.eval y=u at hv
   cases hv
   simp[execOp,hop,hu]
  ·cases h
 ·
  rename_i op t xo yo ty hop
  cases hx:aZ tm xo with
  | none=>rw[hx]at h;simp[aE]at h
  | some x' =>
   cases hy:aZ tm yo with
   | none=>rw[hx,hy]at h;simp[aE]at h
   | some y' =>
    rw[hx,hy]at h
    exact eC.same hS (fun ρ hρ=>by simp only[execOp,hop,hρ]) (Qv (bn hT hx) (bn hT hy) h)
 ·
  rename_i op t y hop
  cases hy:aZ tm y with
  | none=>rw[hy]at h;simp[wM,cF]at h
  | some y' =>
   rw[hy]at h
   exact eC.same hS (fun ρ hρ=>by simp only[execOp,hop,hρ]) (SX (bn hT hy) h)
 ·
  rename_i src dst y hop
  cases hy:aZ tm y with
  | none=>rw[hy]at h;simp[cW]at h
  | some y' =>
   rw[hy]at h
   exact eC.made (fun ρ hρ=>by simp only[execOp,hop,hρ]) (G4 hS hr hq0 (bn hT hy) h)
 ·
  rename_i t y hop
  cases hy:aZ tm y with
  | none=>rw[hy]at h;simp only[oL]at h;split at h<;>simp at h
  | some y' =>
   rw[hy]at h
   exact eC.same hS (fun ρ hρ=>by simp only[execOp,hop,hρ]) (zN (bn hT hy) h)
 ·
  rename_i f first captured hop
  cases h1:first.toList.mapM (aZ tm) with
  | none=>rw[h1]at h;simp[sG]at h
  | some xs =>
   cases h2:captured.toList.mapM (aZ tm) with
   | none=>rw[h1,h2]at h;simp[sG]at h
   | some ys =>
    rw[h1,h2]at h
    obtain⟨rfl,hv⟩:=NK (kV hT h1) (kV hT h2) h
    refine eC.of_run (u := .func f (first.map a.eval) (captured.map a.eval)) (w':=w) (by simp[execOp,hop,Instr.makeFunc]) (gI.same hS ?_)
    have e1 : ∀l:Array Operand,(l.toList.map a.eval).toArray=l.map a.eval:=fun l=>by apply Array.ext';simp
    rw[e1,e1]at hv
    exact hv
 ·
  rename_i t l c hop
  cases hl:aZ tm l with
  | none=>rw[hl]at h;simp only[u4,Option.bind_none]at h;split at h<;>first | cases h | (rename_i h1 h2 h3;cases h2)
  | some l' =>
   cases hc:aZ tm c with
   | none=>rw[hl,hc]at h;simp only[u4,Option.bind_none]at h;split at h<;>first | cases h | (rename_i h1 h2 h3;cases h3)
   | some c' =>
    rw[hl,hc]at h
    exact eC.made (fun ρ hρ=>by simp only[execOp,hop,hρ]) (NG hS hr hq0 (bn hT hl) (bn hT hc) h)
 ·
  rename_i t hop
  cases h
  exact eC.made (s:=Instr.makeMap t none) (fun ρ hρ=>by simp only[execOp,hop,Option.map_none]) (G1 hS hr hq0 t)
 ·
  rename_i t y z ok hop
  cases hy:aZ tm y with
  | none=>rw[hy]at h;simp only[da]at h;split at h<;>simp_all
  | some y' =>
   cases hz:aZ tm z with
   | none=>rw[hy,hz]at h;simp only[da,Option.bind_none]at h;split at h<;>simp_all
   | some z' =>
    rw[hy,hz]at h
    exact eC.same hS (fun ρ hρ=>by simp only[execOp,hop,hρ]) (Jd hS (bn hT hy) (bn hT hz) h)
 ·
  rename_i t y lo hi mx hop
  cases hwd:(E.wide o && !draw) with
  | true =>
   rw[hwd]at h
   simp only[cond_true]at h
   cases hy:aZ tm y with
   | none=>rw[hy]at h;unfold ra at h;split at h<;>simp_all
   | some y' =>
    cases h1:jH tm lo with
    | none=>rw[h1]at h;simp[ra]at h
    | some lo' =>
     cases h2:jH tm hi with
     | none=>rw[h2]at h;unfold ra at h;split at h<;>simp_all
     | some hi' =>
      cases h3:jH tm mx with
      | none=>rw[h3]at h;unfold ra at h;split at h<;>simp_all
      | some mx' =>
       rw[hy,h1,h2,h3]at h
       exact eC.same hS (fun ρ hρ=>by simp only[execOp,hop,hρ]) (Jc hS (bn hT hy) (p6 hT h1) (p6 hT h2) (p6 hT h3) h)
  | false =>
  rw[hwd]at h
  simp only[cond_false]at h
  cases hy:aZ tm y with
  | none=>rw[hy]at h;simp only[eQ]at h;split at h<;>simp at h
  | some y' =>
   rw[hy]at h
   cases h1:jH tm lo with
   | none=>rw[h1]at h;simp[eQ]at h
   | some lo' =>
    cases h2:jH tm hi with
    | none=>rw[h1,h2]at h;simp[eQ]at h
    | some hi' =>
     cases h3:jH tm mx with
     | none=>rw[h1,h2,h3]at h;simp[eQ]at h
     | some mx' =>
      rw[h1,h2,h3]at h
      exact eC.same hS (fun ρ hρ=>by simp only[execOp,hop,hρ]) (LA hS (bn hT hy) (p6 hT h1) (p6 hT h2) (p6 hT h3) h)
 ·
  rename_i t y f hop
  cases hy:aZ tm y with
  | none=>rw[hy]at h;simp only[aa]at h;split at h<;>(try split at h)<;>simp_all
  | some y' =>
   rw[hy]at h
   exact eC.same hS (fun ρ hρ=>by simp only[execOp,hop,hρ]) (DF (bn hT hy) h)
 ·
  rename_i t y f hop
  cases hy:aZ tm y with
  | none=>rw[hy]at h;simp only[lC]at h;split at h<;>simp_all
  | some y' =>
   rw[hy]at h
   exact eC.same hS (fun ρ hρ=>by simp only[execOp,hop,hρ]) (LD (bn hT hy) h)
 ·
  rename_i t y z hop
  cases hy:aZ tm y with
  | none =>
   rw[hy]at h
   simp only[aM]at h
   (repeat' split at h)<;>simp_all
  | some y' =>
   cases hz:aZ tm z with
   | none=>rw[hy,hz]at h;simp[aM]at h
   | some z' =>
    rw[hy,hz]at h
    exact eC.same hS (fun ρ hρ=>by simp only[execOp,hop,hρ]) (DE hS (bn hT hy) (bn hT hz) h)
 ·
  rename_i t y z hop
  cases hy:aZ tm y with
  | none=>rw[hy]at h;simp only[nL]at h;split at h<;>simp_all
  | some y' =>
   cases hz:aZ tm z with
   | none=>rw[hy,hz]at h;simp only[nL,Option.bind_none]at h;(repeat' split at h)<;>simp_all
   | some z' =>
    rw[hy,hz]at h
    exact eC.same hS (fun ρ hρ=>by simp only[execOp,hop,hρ]) (LC (bn hT hy) (bn hT hz) h)
 ·
  rename_i y st want ok hop
  cases hy:aZ tm y with
  | none=>rw[hy]at h;simp only[o3]at h;split at h<;>simp_all
  | some y' =>
   rw[hy]at h
   exact eC.same hS (fun ρ hρ=>by simp only[execOp,hop,hρ]) (xv (st:=st) (bn hT hy) h)
 ·
  rename_i y i hop
  cases hy:aZ tm y with
  | none=>rw[hy]at h;simp[aF]at h
  | some y' =>
   rw[hy]at h
   exact eC.same hS (fun ρ hρ=>by simp only[execOp,hop,hρ]) (G3 (bn hT hy) h)
 ·
  rename_i c hop
  split at h
  ·cases h
  ·rename_i args hargs
   split at h
   ·rename_i fo hc
    split at h
    ·rename_i t hov'
     unfold AB at hov'
     split at hov'
     ·rename_i fi
      obtain⟨fn,tR,f1,f2,f3,f4,f5⟩:=hov rfl fi t hov'
      have hvs:=kV hT hargs
      obtain⟨rfl,rfl,hrun⟩:=NF (P:=E.P) (tR:=tR) hS hvs h
      have hsame:(c.args.toList.map a.eval).toArray=c.args.map a.eval:=by apply Array.ext';simp
      rw[hsame]at hrun
      have hex:(execOp a.eval o).run E.P w = .ok (.value (.bool false)) w:=by
       have h0:=run_callFunc_extern f1 f2 f3 f4 f5 (c.args.map a.eval) w
       rw[hrun]at h0
       simp only[Result.andThen_ok]at h0
       have e0:(#[]++c.args.map a.eval ++ #[]:Array Value)=c.args.map a.eval:=by simp
       simp[execOp,hop,resolve,hc,Act.eval,Deferred.ofValue,invoke,h0]
      exact eC.of_run hex (gI.same hS (.v rfl))
     ·cases hov'
    obtain⟨⟨x0,bs0⟩,h0,e⟩:=Option.map_eq_some_iff.1 h
    cases e
    exact(NN hS hT hq hpc hop hc hargs h0).mono fun u w'=>gI.vn
   ·cases h
   ·rename_i b hc
    have hvs:=kV hT hargs
    have hrun : ∀(s:Sem Value)(us:List Value),(c.args.map a.eval).toList=us→(∀consts,builtin b c.argTypes o.type consts us.toArray=(do pure (Next.value (←s)))) →
     ∀ {u w'},s.run E.P w = .ok u w'→(execOp a.eval o).run E.P w = .ok (.value u) w':=by
     intro s us hus hb u w' hs
     have e1:c.args.map a.eval=us.toArray:=by rw[←hus]
     simp only[execOp,hop,resolve,hc,invoke,Sem.run_bind,Sem.run_pure,Result.andThen_ok,e1,hb,hs]
    have hsame:(c.args.map a.eval).toList=c.args.toList.map a.eval:=by simp
    unfold aJ at h
    split at h
    ·rename_i r'
     obtain⟨u,hu1⟩:=FH hvs.1.symm
     rw[hu1]at hvs
     have hv:=hvs.2 0 (.mp r') u rfl rfl
     obtain⟨rfl,u',hr',hv'⟩:=Je (ty:=o.type) hS hv (Option.ite_none_left_eq_some.1 h).2
     exact eC.of_run (hrun _ [u] (by rw[hsame,hu1]) (fun consts=>rfl) hr') (gI.same hS hv')
    ·rename_i y hnm
     obtain⟨u,hu1⟩:=FH hvs.1.symm
     rw[hu1]at hvs
     have hv:=hvs.2 0 y u rfl rfl
     obtain⟨rfl,u',hr',hv'⟩:=Qr (P:=E.P) (w:=w) (ty:=o.type) hv h
     exact eC.of_run (hrun _ [u] (by rw[hsame,hu1]) (fun consts=>rfl) hr') (gI.same hS hv')
    ·obtain⟨hm,rfl⟩:=nK h
     obtain⟨u,us,hus,u',hr',hv'⟩:=EI (w:=w) hvs hm
     exact eC.of_run (hrun (us.foldlM Builtin.min2 u) (u :: us) (by rw[hsame,hus]) (fun consts=>rfl) hr') (gI.same hS hv')
    ·obtain⟨hm,rfl⟩:=nK h
     obtain⟨u,us,hus,u',hr',hv'⟩:=EI (w:=w) hvs hm
     exact eC.of_run (hrun (us.foldlM Builtin.max2 u) (u :: us) (by rw[hsame,hus]) (fun consts=>rfl) hr') (gI.same hS hv')
    ·rename_i y z
     obtain⟨u,v,hu1⟩:=uK hvs.1.symm
     rw[hu1]at hvs
     obtain⟨u',w',hr',hv'⟩:=Jg (P:=E.P) (ty:=o.type) hS hr hq0 (hvs.2 0 y u rfl rfl) (hvs.2 1 z v rfl rfl) h
     exact eC.of_run (hrun _ [u,v] (by rw[hsame,hu1]) (fun consts=>rfl) hr') hv'
    ·rename_i y
     obtain⟨u,hu1⟩:=FH hvs.1.symm
     rw[hu1]at hvs
     have hv:=hvs.2 0 y u rfl rfl
     obtain⟨rfl,u',hr',hv'⟩:=Qt (P:=E.P) (w:=w) (ty:=o.type) hv h
     exact eC.of_run (hrun _ [u] (by rw[hsame,hu1]) (fun consts=>rfl) hr') (gI.same hS hv')
    ·cases h
 ·cases h
theorem J8{H:ab}(hS:fh M ι H.get w)(hD:pB ι H)(hT:TR M ι tm a){t:TypeId}{m k y:Operand}{x:AV}{H':ab}
 (he : ∀ρ:Operand→Value,execOp ρ o=(do Instr.mapUpdate t (ρ m) (ρ k) (ρ y);pure Next.skip))
 (h:dO E.P H t (aZ tm m) (aZ tm k) (aZ tm y)=some (x,H')):eC E.P o a w fun u w'=>qI M ι H w x H' u w':=by
 cases hm:aZ tm m with
 | none=>rw[hm]at h;simp only[dO]at h;split at h<;>simp_all
 | some m' =>
  cases hk:aZ tm k with
  | none=>rw[hm,hk]at h;simp only[dO]at h;split at h<;>simp_all
  | some k' =>
   cases hy:aZ tm y with
   | none=>rw[hm,hk,hy]at h;simp only[dO]at h;split at h<;>simp_all
   | some y' =>
    rw[hm,hk,hy]at h
    obtain⟨w',hr,hout⟩:=Dm (P:=E.P) hS hD (bn hT hm) (bn hT hk) (bn hT hy) h
    exact eC.Bn (by simp[he,hr]) hout
theorem OH{H:ab}{d tt:Nat}(hS:fh M ι H.get w)(hD:pB ι H)(hT:TR M ι tm a){pc:FuncId→List AV→Option AV}(hpc : ∀f xs y,pc f xs=some y→iL E.P f xs y)
 {tc:sn→List AV→ab→dz} (htc : ∀f xs H y H',tc f xs H=some (y,H')→nc E.P f xs H y H') {x:AV} {H':ab}
 (hcm:KS o.op=false) (h:evalW E pc tc H tm ⟨d,tt,H.gen d tt,0⟩ o=some (x,H')):eC E.P o a w fun u w'=>qI M ι H w x H' u w':=by
 unfold evalW at h
 split at h
 ·
  rename_i t y z hop
  cases hy:aZ tm y with
  | none=>rw[hy]at h;simp[aT]at h
  | some y' =>
   cases hz:aZ tm z with
   | none=>rw[hy,hz]at h;simp only[aT]at h;(repeat' split at h)<;>simp_all
   | some z' =>
    rw[hy,hz]at h
    obtain⟨w',hr,hout⟩:=K1 (P:=E.P) hS hD (bn hT hy) (bn hT hz) h
    exact eC.Bn (by simp[execOp,hop,hr]) hout
 ·
  rename_i t m k y hop
  exact J8 hS hD hT (fun ρ=>by simp[execOp,hop]) h
 ·
  rename_i t m k y hop
  exact J8 hS hD hT (fun ρ=>by simp[execOp,hop]) h
 ·
  rename_i t m k hop
  cases hm:aZ tm m with
  | none=>rw[hm]at h;simp only[eF]at h;split at h<;>simp_all
  | some m' =>
   cases hk:aZ tm k with
   | none=>rw[hm,hk]at h;simp only[eF]at h;split at h<;>simp_all
   | some k' =>
    rw[hm,hk]at h
    obtain⟨u,w',hr,hout⟩:=E6 (P:=E.P) hS hD (bn hT hm) (bn hT hk) h
    exact eC.of_run (by simp only[execOp,hop];exact Ev hr) hout
 ·
  rename_i t m s y hop
  cases hm:aZ tm m with
  | none=>rw[hm]at h;simp[dn]at h
  | some m' =>
   cases hs:aZ tm s with
   | none=>rw[hm,hs]at h;simp[dn]at h
   | some s' =>
    cases hy:aZ tm y with
    | none=>rw[hm,hs,hy]at h;simp[dn]at h
    | some y' =>
     rw[hm,hs,hy]at h
     obtain⟨w',hr,hout⟩:=Bu (P:=E.P) (t:=t) hS hD (bn hT hm) (bn hT hs) (bn hT hy) h
     exact eC.Bn (by simp[execOp,hop,hr]) hout
 ·
  rename_i t n ps hop
  cases hv:ga tm ps.toList with
  | none=>rw[hv]at h;simp[ig]at h
  | some vs =>
   rw[hv]at h
   obtain⟨h1,h2⟩:=pV (ι:=ι) hT hv
   obtain⟨u,w',hr,hout⟩:=Bw (P:=E.P) (qs:=ps.map fun(p:Nat × Operand)=>(p.1,a.eval p.2)) hS hD h (by rw[p7];exact h1) (by rw[p7];exact h2)
   exact eC.of_run (by simp only[execOp,hop];exact Ev hr) hout
 ·
  rename_i t n hop
  unfold oF at h
  split at h
  ·rename_i kd m b hn hb
   obtain⟨⟨h0,h1,h2⟩,h⟩:=Option.ite_none_right_eq_some.1 h
   cases h
   obtain⟨e,ht,hbe⟩:=Option.bind_eq_some_iff.1 hb
   have hv:=bn hT hn
   generalize hev:a.eval n=nv at hv
   cases hv
   obtain⟨u,w',hr,hout⟩:=Fp (P:=E.P) hS rfl (hD.fresh d tt 0) ht hbe kd m.toNat (by omega) h2
   have hm:((m.toNat:Nat):Int)=m:=by omega
   rw[hm]at hr
   exact eC.of_run (by simp only[execOp,hop,hev];exact Ev hr) (hout.YP hD)
  ·cases h
 ·rename_i hop;rw[hop]at hcm;cases hcm
 ·rename_i hop;rw[hop]at hcm;cases hcm
 ·
  rename_i c hop
  split at h
  ·cases h
  ·rename_i args hargs
   split at h
   ·rename_i fo hc
    rcases Gi h with h | ⟨H1,rfl,h,hfl,hsame⟩
    ·exact Gl hS hD hT hpc htc hop hc hargs h
    ·exact(Gl hS hD hT hpc htc hop hc hargs h).mono fun u w' hw=>Lx hS hD hfl hsame hw
   ·cases h
   ·rename_i b hc
    have hvs:=kV hT hargs
    have hrun : ∀(s:Sem Value)(us:List Value),(c.args.map a.eval).toList=us→(∀consts,builtin b c.argTypes o.type consts us.toArray=(do pure (Next.value (←s)))) →
     ∀ {u w'},s.run E.P w = .ok u w'→(execOp a.eval o).run E.P w = .ok (.value u) w':=by
     intro s us hus hb u w' hs
     have e1:c.args.map a.eval=us.toArray:=by rw[←hus]
     simp only[execOp,hop,resolve,hc,invoke,Sem.run_bind,Sem.run_pure,Result.andThen_ok,e1,hb,hs]
    have hsame:(c.args.map a.eval).toList=c.args.toList.map a.eval:=by simp
    split at h
    ·rename_i y z
     obtain⟨u,v,hu1⟩:=uK hvs.1.symm
     rw[hu1]at hvs
     obtain⟨u',w',hr',hv'⟩:=IH (P:=E.P) (ty:=o.type) hS hD (hvs.2 0 y u rfl rfl) (hvs.2 1 z v rfl rfl) h
     exact eC.of_run (hrun _ [u,v] (by rw[hsame,hu1]) (fun consts=>rfl) hr') hv'
    ·rename_i y z
     obtain⟨u,v,hu1⟩:=uK hvs.1.symm
     rw[hu1]at hvs
     cases hwd:E.wide o with
     | true =>
      rw[hwd]at h
      simp only[cond_true]at h
      obtain⟨u',w',hr',hv'⟩:=K2 (P:=E.P) (ty:=o.type) hS hD (hvs.2 0 y u rfl rfl) (hvs.2 1 z v rfl rfl) h
      exact eC.of_run (hrun _ [u,v] (by rw[hsame,hu1]) (fun consts=>rfl) hr') hv'
     | false =>
     rw[hwd]at h
     simp only[cond_false]at h
     obtain⟨u',w',hr',hv'⟩:=MG (P:=E.P) (ty:=o.type) hS hD (hvs.2 0 y u rfl rfl) (hvs.2 1 z v rfl rfl) h
     exact eC.of_run (hrun _ [u,v] (by rw[hsame,hu1]) (fun consts=>rfl) hr') hv'
    ·cases h
 ·cases h
structure qU (M:Mem) (ι:Map) (st:St) (nt:Nat) (a:Act) (w:World):Prop where
 sim:fh M ι st.hp.get w
 dom:pB ι st.hp
 tr:TR M ι st.tm a
 nt:a.tmps.size=nt
def iY(M:Mem)(ι:Map)(st:St)(a:Act)(w:World)(nt:Nat)(st':St)(a':Act)(w':World):Prop :=
 (∃M' ι',qU M' ι' st' nt a' w'∧pA M ι st.hp.get w M' ι' st'.hp.get w')∧a'.defers=a.defers
theorem iY.refl{st nt}(h:qU M ι st nt a w):iY M ι st a w nt st a w:=⟨⟨M,ι,h,pA.refl⟩,rfl⟩
theorem z9{st st':St}{nt dep:Nat}{draw:Bool}{ops:Array Oper}(hO:qU M ι st nt a w){pc:FuncId→List AV→Option AV}(hpc : ∀f xs y,pc f xs=some y→iL E.P f xs y)
 {tc:sn→List AV→ab→dz} (htc : ∀f xs H y H',tc f xs H=some (y,H')→nc E.P f xs H y H') (hov:draw=false →∀f t,E.pP f=some t→xP E.P f t) (hcm:draw=true∨KS o.op=false) (h:evalOp E pc tc nt dep draw ops o st=some st')
 {ro:Option Nat} {K:Act→World→Prop} {Q:Exit→Act→World→Prop} (hK : ∀a' w',iY M ι st a w nt st' a' w'→K a' w') :
 if Region.wanted o (yielded ops a.tmps) then o.wpIn (FW ro) 0 E.P a w K Q else K (a.put o.dst undef) w:=by
 unfold evalOp at h
 split at h
 ·cases h
 ·rename_i hw
  rw[iZ hO.tr hw]
  simp only[Option.map_eq_some_iff]at h
  obtain⟨tm',htm,rfl⟩:=h
  obtain⟨h1,h2⟩:=hO.tr.put hO.nt htm (u:=undef) (.v rfl)
  simp only[Bool.false_eq_true,if_false]
  exact hK _ _ ⟨⟨M,ι,⟨hO.sim,hO.dom,h1,h2⟩,pA.refl⟩,put_defers _ _ _⟩
 ·rename_i hw
  rw[iZ hO.tr hw]
  simp only[if_true]
  have fin : ∀ {x:AV} {H':ab} {tm':List AV},eC E.P o a w (fun u w'=>qI M ι st.hp w x H' u w')→dq nt st.tm o.dst x=some tm'→st'=⟨tm',H'⟩→o.wpIn (FW ro) 0 E.P a w K Q:=by
   intro x H' tm' hop htm he
   subst he
   refine hop ro K Q fun u w' ⟨M',ι',h1,h2,h3,h4⟩=>hK _ _ ?_
   obtain⟨h5,h6⟩:=(hO.tr.mono h3.mem h3.map).put hO.nt htm h1
   exact⟨⟨M',ι',⟨h2,h4,h5,h6⟩,h3⟩,put_defers _ _ _⟩
  split at h
  ·rename_i x bs hq
   simp only[Option.map_eq_some_iff]at h
   obtain⟨tm',htm,rfl⟩:=h
   have:=sO (E:=E) (o:=o) hO.sim hO.tr rfl (fun k=>hO.dom.fresh dep (o.dst.getD 0) k) hpc hov hq
   exact fin (fun ro K Q hK=>this ro K Q fun u w' hout=>hK u w' (hout.YP hO.dom)) htm rfl
  ·split at h
   ·cases h
   ·rename_i hwk
    split at h
    ·rename_i x H' hq
     simp only[Option.map_eq_some_iff]at h
     obtain⟨tm',htm,rfl⟩:=h
     have hc0:KS o.op=false:=by
      rcases hcm with rfl | hc0
      ·simp only[Bool.true_and,Bool.not_eq_true',Bool.not_eq_false]at hwk
       cases hop:o.op<;>first | rfl | (simp[gB,Sz,wE,hop]at hwk)
      ·exact hc0
     exact fin (OH (E:=E) (o:=o) hO.sim hO.dom hO.tr hpc htc hc0 hq) htm rfl
    ·cases h
end
end Go.Ab
namespace Go.Ab
section
variable{E:Env}{M:Mem}{ι:Map}{w:World}{a:Act}
theorem iY.trans{st st1 st2:St}{nt:Nat}{a1 a2:Act}{w1 w2:World}(h:iY M ι st a w nt st1 a1 w1)(h' : ∀M1 ι1,qU M1 ι1 st1 nt a1 w1→iY M1 ι1 st1 a1 w1 nt st2 a2 w2):iY M ι st a w nt st2 a2 w2:=by
 obtain⟨⟨M1,ι1,h1,h2⟩,e1⟩:=h
 obtain⟨⟨M2,ι2,h3,h4⟩,e2⟩:=h' M1 ι1 h1
 exact⟨⟨M2,ι2,h3,h2.trans h4⟩,e2.trans e1⟩
theorem yZ{o:Oper}{st st':St}{nt dep:Nat}{ops:Array Oper}{i:Nat}(hO:qU M ι st nt a w){pc:FuncId→List AV→Option AV}(hpc : ∀f xs y,pc f xs=some y→iL E.P f xs y)
 {tc:sn→List AV→ab→dz} (htc : ∀f xs H y H',tc f xs H=some (y,H')→nc E.P f xs H y H') (hov : ∀f t,E.pP f=some t→xP E.P f t) (h:evalOp E pc tc nt dep false ops o st=some st') (ho:ops[i]?=some o)
 (b:Frame) (rest:List Nat) (k:List Item) (cs:List Frame) :
 ∃a' w',iY M ι st a w nt st' a' w'∧(b.kind = .normal→Steps E.P (lone (b.atR a (.inRegion ops (i :: rest) :: k)) cs w) (lone (b.atR a' (.inRegion ops rest :: k)) cs w')):=by
 have skip:Region.wanted o (yielded ops a.tmps)=false→Steps E.P (lone (b.atR a (.inRegion ops (i :: rest) :: k)) cs w) (lone (b.atR (a.put o.dst undef) (.inRegion ops rest :: k)) cs w):=by
  intro hw
  have hs:=stepR_op_skip (P:=E.P) (b:=b) (a:=a) (k:=k) (cs:=cs) (w:=w) (ops:=ops) (i:=i) (rest:=rest) (by simp[ho,hw])
  simp only[ho,Option.bind_some]at hs
  exact .one hs
 cases hcm:KS o.op with
 | false =>
  have h1:=z9 (E:=E) (ro:=b.roundOf) (Q:=fun _ _ _=>False) hO hpc htc (fun _=>hov) (.inr hcm) h (K:=fun a' w'=>iY M ι st a w nt st' a' w') fun a' w' h=>h
  by_cases hw:Region.wanted o (yielded ops a.tmps)=true
  ·rw[if_pos hw]at h1
   obtain⟨a',w',h2,h3⟩:=Ku ho hw b h1 rest k cs
   exact⟨a',w',h2,fun _=>h3⟩
  ·rw[if_neg hw]at h1
   exact⟨_,_,h1,fun _=>skip (by simpa using hw)⟩
 | true =>
  unfold evalOp at h
  split at h
  ·cases h
  ·rename_i hw
   have hw':=iZ hO.tr hw
   simp only[Option.map_eq_some_iff]at h
   obtain⟨tm',htm,rfl⟩:=h
   obtain⟨h1,h2⟩:=hO.tr.put hO.nt htm (u:=undef) (.v rfl)
   exact⟨_,_,⟨⟨M,ι,⟨hO.sim,hO.dom,h1,h2⟩,pA.refl⟩,put_defers _ _ _⟩,fun _=>skip hw'⟩
  ·rename_i hw
   have hw':=iZ hO.tr hw
   have fin : ∀ {x:AV} {H':ab} {tm':List AV},Dj E.P o a w (fun u w'=>qI M ι st.hp w x H' u w')→dq nt st.tm o.dst x=some tm'→st'=⟨tm',H'⟩ →
    ∃a' w',iY M ι st a w nt st' a' w'∧(b.kind = .normal→Steps E.P (lone (b.atR a (.inRegion ops (i :: rest) :: k)) cs w) (lone (b.atR a' (.inRegion ops rest :: k)) cs w')):=by
    intro x H' tm' hop htm he
    subst he
    by_cases hk:b.kind = .normal
    ·obtain⟨u,w',⟨M',ι',h1,h2,h3,h4⟩,hst⟩:=hop b k cs ops i rest hk ho hw'
     obtain⟨h5,h6⟩:=(hO.tr.mono h3.mem h3.map).put hO.nt htm h1
     exact⟨_,_,⟨⟨M',ι',⟨h2,h4,h5,h6⟩,h3⟩,put_defers _ _ _⟩,fun _ => .one hst⟩
    ·obtain⟨u,w',⟨M',ι',h1,h2,h3,h4⟩,hst⟩:=hop { b with kind := .normal} k cs ops i rest rfl ho hw'
     obtain⟨h5,h6⟩:=(hO.tr.mono h3.mem h3.map).put hO.nt htm h1
     exact⟨_,_,⟨⟨M',ι',⟨h2,h4,h5,h6⟩,h3⟩,put_defers _ _ _⟩,fun h=>absurd h hk⟩
   have hq0:cB E pc false st.hp.get st.tm ⟨dep,o.dst.getD 0,st.hp.gen dep (o.dst.getD 0),0⟩ o=none:=by
    unfold cB
    cases hop:o.op<;>rw[hop]at hcm<;>first | rfl | (cases hcm)
   rw[hq0]at h
   simp only[Bool.false_and,Bool.false_eq_true,if_false]at h
   split at h
   ·rename_i x H' hq
    simp only[Option.map_eq_some_iff]at h
    obtain⟨tm',htm,rfl⟩:=h
    unfold evalW at hq
    cases hop:o.op<;>rw[hop]at hcm hq<;>try (cases hcm;done)
    ·rename_i c y
     simp only at hq
     cases hc:aZ st.tm c with
     | none=>rw[hc]at hq;simp[wF]at hq
     | some c' =>
      cases hy:aZ st.tm y with
      | none=>rw[hc,hy]at hq;simp[wF]at hq
      | some y' =>
       rw[hc,hy]at hq
       exact fin (MD hO.sim hO.dom hop (bn hO.tr hc) (bn hO.tr hy) hq) htm rfl
    ·rename_i t c okb
     simp only at hq
     cases hc:aZ st.tm c with
     | none=>rw[hc]at hq;simp[ue]at hq
     | some c' =>
      rw[hc]at hq
      exact fin (MF hO.sim hO.dom hop (bn hO.tr hc) hq) htm rfl
   ·cases h
theorem Fo{pc:FuncId→List AV→Option AV}(hpc : ∀f xs y,pc f xs=some y→iL E.P f xs y)
 {tc:sn→List AV→ab→dz} (htc : ∀f xs H y H',tc f xs H=some (y,H')→nc E.P f xs H y H') (hov : ∀f t,E.pP f=some t→xP E.P f t) {nt dep:Nat} {ops:Array Oper} {st':St} (b:Frame) (k:List Item) (cs:List Frame) :
 ∀(l pre:List Oper)(st:St)(M:Mem)(ι:Map)(a:Act)(w:World),ops.toList=pre++l→kY E pc tc nt dep false ops l st=some st'→qU M ι st nt a w →
  ∃a' w',iY M ι st a w nt st' a' w'∧(b.kind = .normal→Steps E.P (lone (b.atR a (.inRegion ops (List.range' pre.length l.length) :: k)) cs w) (lone (b.atR a' (.inRegion ops [] :: k)) cs w')):=by
 intro l
 induction l with
 | nil =>
  intro pre st M ι a w _ h hO
  simp only[kY,Option.some.injEq]at h
  subst h
  exact⟨a,w,iY.refl hO,fun _=>Steps.refl _ _⟩
 | cons o l ih =>
  intro pre st M ι a w he h hO
  simp only[kY]at h
  split at h
  ·rename_i st1 h1
   have ho:ops[pre.length]?=some o:=by
    rw[←Array.getElem?_toList,he];simp
   obtain⟨a1,w1,hst1,hs1⟩:=yZ hO hpc htc hov h1 ho b (List.range' (pre.length+1) l.length) k cs
   obtain⟨⟨M1,ι1,hO1,hF1⟩,e1⟩:=hst1
   obtain⟨a2,w2,⟨⟨M2,ι2,hO2,hF2⟩,e2⟩,hs2⟩:=ih (pre++[o]) st1 M1 ι1 a1 w1 (by simp[he]) h hO1
   refine⟨a2,w2,⟨⟨M2,ι2,hO2,hF1.trans hF2⟩,e2.trans e1⟩,fun hk=>?_⟩
   have h2:=hs2 hk
   simp only[List.length_append,List.length_cons,List.length_nil,Nat.zero_add]at h2
   rw[List.length_cons,List.range'_succ]
   exact(hs1 hk).trans h2
  ·cases h
theorem yv{pc:FuncId→List AV→Option AV}(hpc : ∀f xs y,pc f xs=some y→iL E.P f xs y)
 {tc:sn→List AV→ab→dz} (htc : ∀f xs H y H',tc f xs H=some (y,H')→nc E.P f xs H y H') (hov : ∀f t,E.pP f=some t→xP E.P f t) {nt dep id:Nat} {ops:Array Oper} {st st':St} (b:Frame) (k:List Item) (cs:List Frame)
 (h:kY E pc tc nt dep false ops ops.toList st=some st') (hO:qU M ι st nt a w) :
 ∃a' w',iY M ι st a w nt st' a' w'∧(b.kind = .normal→Steps E.P (lone (b.atR a (.code (.region id ops false) :: k)) cs w) (lone (b.atR a' k) cs w')):=by
 obtain⟨a',w',h1,h2⟩:=Fo hpc htc hov b k cs ops.toList [] st M ι a w rfl h hO
 refine⟨a',w',h1,fun hk=>Steps.trans (.one ?_) (Steps.trans (h2 hk) (.one stepR_region_end))⟩
 have:=stepR_region (P:=E.P) (b:=b) (a:=a) (k:=k) (cs:=cs) (w:=w) (id:=id) (ops:=ops)
 simpa [List.range_eq_range'] using this
structure Env.Ok (E:Env) (ok:Array Oper→Bool):Prop where
 fns : ∀f,E.allowed f=true →∃fn,E.P.funcs[f]?=some fn∧(fn.name == "runtime.NumGoroutine")=false ∧∀c,fn.body=some c→codeOk ok c=true
 specs : ∀f args y,E.spec f args=some y→iL E.P f args y
 same:E.ok=ok
 overs : ∀f t,E.pP f=some t→xP E.P f t
 thrs : ∀f args H y H',E.thrSpec f args H=some (y,H')→nc E.P (.fn f) args H y H'
 draws : ∀(ops:Array Oper),ok ops=true →∀ {pc:FuncId→List AV→Option AV},(∀f xs y,pc f xs=some y→iL E.P f xs y) →
  ∀ {tc:sn→List AV→ab→dz},(∀f xs H y H',tc f xs H=some (y,H')→nc E.P f xs H y H') →∀(nt dep id:Nat)(st st':St)(M:Mem)(ι:Map)(a:Act)(w:World)(ro:Option Nat)(Q:Exit→Act→World→Prop),
  kY E pc tc nt dep true ops ops.toList st=some st'→o6 E ops st'=true→qU M ι st nt a w→(∀a' w',iY M ι st a w nt st' a' w'→Q .normal a' w')→(Code.region id ops true).wpIn (FW ro) 0 E.P Q a w
theorem EV{ok:Array Oper→Bool}{id:Nat} : ∀ {k k':List Item},exitTo id k=some k'→(∀i∈k,k5 ok i=true) →∀i∈k',k5 ok i=true:=by
 intro k
 induction k with
 | nil=>intro k' h;simp[exitTo]at h
 | cons x k ih =>
  intro k' h hk
  have hk' : ∀i∈k,k5 ok i=true:=fun i hi=>hk i (List.mem_cons_of_mem _ hi)
  cases x with
  | inBlock id' =>
   simp only[exitTo]at h
   split at h
   ·injection h with h;subst h;exact hk'
   ·exact ih h hk'
  | _=>exact ih (by simpa [exitTo] using h) hk'
theorem SI{P:Program}{ro:Option Nat}{m m':Machine}(h:StepsIn (Machine.fenced P (FW ro)) P m m'):Steps P m m':=StepsIn.steps h
theorem GB{P:Program}{c:Code}{a:Act}{w:World}{R:Act→World→Prop}(b:Frame)(h:c.wpIn (FW b.roundOf) 0 P (fun e a w=>e = .normal∧R a w) a w)(k:List Item)(cs:List Frame) :
 ∃a' w',R a' w'∧Steps P (lone (b.atR a (.code c :: k)) cs w) (lone (b.atR a' k) cs w'):=by
 obtain⟨e,a',w',⟨he,hR⟩,harr⟩:=h b k cs rfl trivial (fun _ h=>by simp[FW,Fence.wide]at h)
 subst he
 exact⟨a',w',hR,SI harr⟩
theorem Oi{H:ab}{r:Ref}{n:Nat}{inf:AV}(h:tE H r=some (n,inf)) : ∃st a f,H.get r=some ⟨0,[.v (.int .i64 st),inf],a,f⟩∧st.toNat=n:=by
 unfold tE at h
 split at h
 ·rename_i st inf' a f hg
  cases h
  exact⟨st,a,f,hg,rfl⟩
 ·cases h
structure Pa (r r':Loop):Prop where
 tmps:r'.tmps=r.tmps
 params:r'.params=r.params
 assign:r'.assign=r.assign
 body:r'.body=r.body
theorem wo{H:ab}{r:Ref}{l:Loc}{n:Nat}{inf:AV}(hS:fh M ι H.get w)(hD:pB ι H)(hr:ι r=some l)(ha:tE H r=some (n,inf)) :
 ∃nt ps assign body tm lr,inf = .lp 0 nt ps assign body tm∧w.heap[l.b]?=some (.loop lr)∧lr.params=ps.toArray∧lr.assign=assign∧lr.body=body∧lr.tmps.size=nt∧(∀t,VR M ι (cU tm t) (lr.tmps.getD t undef))∧ye n lr ∧
  (∀n' lr',Pa lr lr'→ye n' lr'→fh M ι (H.put r (some (iC n' inf))).get (bW w l.b (.loop lr'))∧pA M ι H.get w M ι (H.put r (some (iC n' inf))).get (bW w l.b (.loop lr'))∧pB ι (H.put r (some (iC n' inf)))) ∧
  ∀lr',fh M ι (H.put r none).get (bW w l.b (.loop lr'))∧pA M ι H.get w M ι (H.put r none).get (bW w l.b (.loop lr'))∧pB ι (H.put r none):=by
 obtain⟨st,a,f,hg,hst⟩:=Oi ha
 obtain⟨l',hl',hb⟩:=hS.live r _ hg
 rw[hr]at hl';cases hl'
 rcases hb.objOk rfl with ⟨n0,nt,ps,as,bd,tm,lr,h1,h2,h3,h4,h5,h6,h7,h8,h9,h10⟩ | ⟨_,_,_,_,h3,_⟩ | ⟨_,_,_,_,_,_,_,_,h3,_⟩
 case inr.inl=>simp at h3
 case inr.inr=>simp at h3
 simp only[List.cons.injEq,AV.v.injEq,Value.int.injEq,true_and,and_true]at h3
 obtain⟨e1,e2⟩:=h3
 subst e2
 have hn:n0=n:=by rw[←hst,e1];simp
 subst hn
 have hlt:l.b<w.heap.size:=(Array.getElem?_eq_some_iff.1 h4).1
 have hM : ∀o x,M l.b o=some x→False:=by
  intro o x hx
  have:=hS.mem _ _ _ hx
  simp[World.cell?,h4]at this
 have hlz:l.esz=0:=hb.esz
 have others : ∀lr' b',∀q k,(H.put r b').get q=some k→q≠r →∃l1,ι q=some l1∧mb M ι (bW w l.b (.loop lr')) l1 k:=by
  intro lr' b' q k hq hne
  rw[ab.get_put,if_neg hne]at hq
  obtain⟨l1,hl1,hb1⟩:=hS.live q k hq
  have hnb:l.b≠l1.b:=fun e=>hne (hS.inj q r k _ l1 l hq hg hl1 hr e.symm)
  exact⟨l1,hl1,hb1.cV (fun _ _ _ h=>h) (fun _ _ h=>h) (ei hnb) hb1.frozen⟩
 have hmem : ∀lr',∀b o x,M b o=some x→(bW w l.b (.loop lr')).cell? ⟨b,o,none⟩=some x:=by
  intro lr' b o x hx
  have hne:l.b≠b:=fun e=>hM o x (e ▸ hx)
  rw[World.cell?_of_block (w:=w) (ei hne)]
  exact hS.mem b o x hx
 have back : ∀(b':Option bN) q k,(H.put r b').get q=some k →∃k0,H.get q=some k0:=by
  intro b' q k hq
  rw[ab.get_put]at hq
  split at hq
  ·rename_i e;exact⟨_,e ▸ hg⟩
  ·exact⟨k,hq⟩
 have inj : ∀(b':Option bN) q q' k k' l1 l2,(H.put r b').get q=some k→(H.put r b').get q'=some k'→ι q=some l1→ι q'=some l2→l1.b=l2.b→q=q':=by
  intro b' q q' k k' l1 l2 h1 h2 h3 h4 h5
  obtain⟨k0,g1⟩:=back b' q k h1
  obtain⟨k1,g2⟩:=back b' q' k' h2
  exact hS.inj q q' k0 k1 l1 l2 g1 g2 h3 h4 h5
 have fwd : ∀(b':Option bN) lr',pA M ι H.get w M ι (H.put r b').get (bW w l.b (.loop lr')):=by
  intro b' lr'
  refine⟨rfl,rfl,rfl,by simp[bW],fun b _ hno=>ei (hno r _ l hg hr),fun _ _ _ h=>h,fun _ _ h=>h,fun q k l1 h1 h2=>?_,fun _ _ _ h => .inl h⟩
  obtain⟨k0,g1⟩:=back b' q k h1
  exact .inr ⟨q,k0,l1,g1,h2,rfl⟩
 have dom : ∀b':Option bN,pB ι (H.put r b'):=by
  intro b' q lq hq
  rw[ab.kz _ _ _ (by rw[hg];rfl)]
  exact hD q lq hq
 refine⟨nt,ps,as,bd,tm,lr,rfl,h4,h5,h6,h7,h8,h9,h10,fun n' lr' hs hst'=>⟨⟨hmem lr',fun q k hq=>?_,inj _⟩,fwd _ lr',dom _⟩,fun lr'=>⟨⟨hmem lr',fun q k hq=>?_,inj _⟩,fwd _ lr',dom _⟩⟩
 ·by_cases hqr:q=r
  ·subst hqr
   rw[ab.get_put,if_pos rfl]at hq
   cases hq
   refine⟨l,hr,kU.Mz (.inl ⟨n',nt,ps,as,bd,tm,lr',rfl,rfl,rfl,eI hlt,by rw[hs.params];exact h5,by rw[hs.assign];exact h6,by rw[hs.body];exact h7,by rw[hs.tmps];exact h8,by rw[hs.tmps];exact h9,hst'⟩) hlz hM⟩
  ·exact others lr' _ q k hq hqr
 ·by_cases hqr:q=r
  ·rw[ab.get_put,if_pos hqr]at hq
   cases hq
  ·exact others lr' _ q k hq hqr
theorem Oj{H:ab}{d nt:Nat}{tm:List AV}{a:Act}{ps:Array Tmp}{assign body:Code}{fn:FuncId}(hS:fh M ι H.get w)(hD:pB ι H)(hT:TR M ι tm a)(hn:a.tmps.size=nt){w1:World}
 (hw:w1=(w.alloc (.deferred (some []))).alloc (.loop { state := .ready,pending:=none,fn,tmps:=a.tmps,params:=ps,assign,body,defers:=w.heap.size})) :
 let r:Ref:=⟨d,nt,H.gen d nt,0⟩
 let ι1:=gp ι r ⟨w.heap.size+1,0,0⟩
 fh M ι1 (ab.get ((r,some (iC 0 (.lp 0 nt ps.toList assign body tm))) :: H)) w1∧pA M ι H.get w M ι1 (ab.get ((r,some (iC 0 (.lp 0 nt ps.toList assign body tm))) :: H)) w1 ∧
  pB ι1 ((r,some (iC 0 (.lp 0 nt ps.toList assign body tm))) :: H)∧w1.heap[w.heap.size]?=some (.deferred (some [])):=by
 intro r ι1
 have hq:ι r=none:=hD.fresh d nt 0
 have hle:=yb (l:=⟨w.heap.size+1,0,0⟩) hq
 have hheap:w1.heap=(w.heap.push (.deferred (some []))).push (.loop { state := .ready,pending:=none,fn,tmps:=a.tmps,params:=ps,assign,body,defers:=w.heap.size}):=by rw[hw];rfl
 have hold : ∀b,b<w.heap.size→w1.heap[b]?=w.heap[b]?:=by
  intro b hb
  rw[hheap,Array.getElem?_push_lt (by simp;omega),←Array.getElem?_eq_getElem,Array.getElem?_push_lt hb,←Array.getElem?_eq_getElem]
 have hD0:w1.heap[w.heap.size]?=some (.deferred (some [])):=by rw[hheap,Array.getElem?_push_lt (by simp),←Array.getElem?_eq_getElem];simp
 have hL0:w1.heap[w.heap.size+1]?=some (.loop { state := .ready,pending:=none,fn,tmps:=a.tmps,params:=ps,assign,body,defers:=w.heap.size}):=by rw[hheap,Array.getElem?_push];simp
 have hMlt : ∀b o x,M b o=some x→b<w.heap.size:=fun b o x h=>World.block_lt_of_cell? w ⟨b,o,none⟩ (hS.mem b o x h)
 have hget : ∀q,ab.get ((r,some (iC 0 (.lp 0 nt ps.toList assign body tm))) :: H) q=if r=q then some (iC 0 (.lp 0 nt ps.toList assign body tm)) else H.get q:=fun q=>rfl
 refine⟨⟨fun b o x h=>?_,fun q k h=>?_,fun q q' k k' l1 l2 h1 h2 h3 h4 h5=>?_⟩,⟨by rw[hw];rfl,by rw[hw];rfl,by rw[hw];rfl,by rw[hheap];simp;omega,fun b hb _=>hold b hb,fun _ _ _ h=>h,hle,fun q k l1 h1 h2=>?_,fun _ _ _ h => .inl h⟩,fun q l1 h=>?_,hD0⟩
 ·rw[World.cell?_of_block (w:=w) (hold b (hMlt b o x h))]
  exact hS.mem b o x h
 ·rw[hget]at h
  split at h
  ·rename_i e
   subst e
   cases h
   refine⟨⟨w.heap.size+1,0,0⟩,by simp[ι1,gp],kU.Mz (.inl ⟨0,nt,ps.toList,assign,body,tm,_,rfl,rfl,rfl,hL0,by simp,rfl,rfl,hn,fun t=>(hT.at_ t).mono (fun _ _ _ h=>h) ι1 hle,⟨rfl,rfl⟩⟩) rfl ?_⟩
   intro o x hx
   have:=hMlt _ _ _ hx
   simp only at this
   omega
  ·obtain⟨l1,hl1,hb1⟩:=hS.live q k h
   exact⟨l1,hle q l1 hl1,hb1.cV (fun _ _ _ h=>h) hle (hold _ hb1.lt) hb1.frozen⟩
 ·have one : ∀ {q:Ref} {k l1},ab.get ((r,some (iC 0 (.lp 0 nt ps.toList assign body tm))) :: H) q=some k→ι1 q=some l1→(q=r∧l1.b=w.heap.size+1)∨(q≠r∧H.get q=some k∧ι q=some l1∧l1.b<w.heap.size):=by
   intro q k l1 h h'
   rw[hget]at h
   split at h
   ·rename_i e
    subst e
    simp only[ι1,gp,if_true]at h'
    cases h'
    exact .inl ⟨rfl,rfl⟩
   ·rename_i e
    simp only[ι1,gp]at h'
    rw[if_neg (Ne.symm e)]at h'
    obtain⟨l2,hl2,hb2⟩:=hS.live q k h
    rw[h']at hl2;cases hl2
    exact .inr ⟨Ne.symm e,h,h',hb2.lt⟩
  rcases one h1 h3 with ⟨e1,e2⟩ | ⟨e1,e2,e3,e4⟩<;>rcases one h2 h4 with ⟨f1,f2⟩ | ⟨f1,f2,f3,f4⟩
  ·rw[e1,f1]
  ·omega
  ·omega
  ·exact hS.inj q q' k k' l1 l2 e2 f2 e3 f3 h5
 ·rw[hget]at h1
  simp only[ι1,gp]at h2
  split at h1
  ·rename_i e
   rw[if_pos e.symm]at h2
   cases h2
   exact .inl (Nat.le_succ _)
  ·rename_i e
   rw[if_neg (Ne.symm e)]at h2
   exact .inr ⟨q,k,l1,h1,h2,rfl⟩
 ·simp only[ι1,gp]at h
  simp only[ab.gen]
  by_cases hqr:q=r
  ·subst hqr
   rw[if_pos ⟨rfl,rfl⟩]
   exact Nat.lt_succ_self _
  ·rw[if_neg hqr]at h
   have:=hD q l1 h
   split
   ·rename_i hc;rw[←hc.1,←hc.2]at this;exact Nat.lt_succ_of_lt this
   ·exact this
theorem Ei : ∀(args:List AV)(t:Nat),cU args t=(args[t]?).getD AV.undef:=by
 intro args
 induction args with
 | nil=>intro t;simp[cU]
 | cons x l ih =>
  intro t
  cases t with
  | zero=>simp[cU]
  | succ t=>simp[cU,ih]
def Qg(tmps:Array Value):ResultVar→Sem Value
 | .tmp t=>pure (tmps.getD t undef)
 | .cell b t=>asAddr (tmps.getD b undef) >>= fun x=>loadVar t x
theorem I9(fn:Func)(tmps:Array Value):results fn tmps=fn.results.mapM (Qg tmps) >>= fun vs=>pure (if h:vs.size=1 then vs[0] else .tuple vs):=by
 unfold results
 congr 1
theorem I8{fn:Func}{st:St}{nt:Nat}(hO:qU M ι st nt a w){x:AV}(h:qm E.P fn st=some x) : ∃v,(results fn a.tmps).run E.P w = .ok v w∧VR M ι x v:=by
 have one : ∀(rv:ResultVar)(y:AV),iA E.P st rv=some y →∃v,(Qg a.tmps rv).run E.P w = .ok v w∧VR M ι y v:=by
  intro rv y hy
  cases rv with
  | tmp t =>
   simp only[iA,Option.some.injEq]at hy
   subst hy
   exact⟨_,rfl,hO.tr.at_ t⟩
  | cell b t =>
   simp only[iA]at hy
   split at hy
   ·rename_i r i j g n hb hg hn
    split at hy
    ·rename_i k hk
     have hv:=hO.tr.at_ b
     rw[hb]at hv
     obtain⟨v,h1,h2⟩:=KA hg hn hO.sim hv hk hy
     refine⟨v,?_,h2⟩
     simp only[Qg]
     generalize a.tmps.getD b undef=u at hv h1 ⊢
     cases hv
     simpa [asAddr,Instr.loadAt,Instr.sureAddr] using h1
    ·cases hy
   ·cases hy
 have many : ∀(rs:List ResultVar)(ys:List AV),rs.mapM (iA E.P st)=some ys →∃vs,(rs.mapM (Qg a.tmps)).run E.P w = .ok vs w∧jC M ι ys vs:=by
  intro rs
  induction rs with
  | nil=>intro ys h;simp at h;subst h;exact⟨[],rfl,jC.nil⟩
  | cons r rs ih =>
   intro ys h
   simp only[List.mapM_cons,Option.pure_def,Option.bind_eq_bind,Option.bind_eq_some_iff]at h
   obtain⟨y,hy,ys',hys,h⟩:=h
   simp at h
   subst h
   obtain⟨v,h1,h2⟩:=one r y hy
   obtain⟨vs,h3,h4⟩:=ih ys' hys
   refine⟨v :: vs,?_,jC.cons h2 h4⟩
   rw[List.mapM_cons]
   simp only[Sem.run_bind,h1,Result.andThen_ok,h3,Sem.run_pure]
 unfold qm at h
 have fin : ∀ys,fn.results.toList.mapM (iA E.P st)=some ys →∃vs:List Value,(results fn a.tmps).run E.P w = .ok (if h:vs.toArray.size=1 then vs.toArray[0] else .tuple vs.toArray) w∧jC M ι ys vs:=by
  intro ys hys
  obtain⟨vs,h1,h2⟩:=many _ ys hys
  refine⟨vs,?_,h2⟩
  rw[I9]
  simp only[Array.mapM_eq_mapM_toList,Sem.run_bind,Sem.run_map,h1,Result.andThen_ok,Sem.run_pure]
 split at h
 ·rename_i hys
  injection h with h
  subst h
  obtain⟨vs,h1,h2⟩:=fin _ hys
  have:vs=[]:=List.eq_nil_of_length_eq_zero (by rw[←h2.1];rfl)
  subst this
  exact⟨_,h1,.v rfl⟩
 ·rename_i y hys
  injection h with h
  subst h
  obtain⟨vs,h1,h2⟩:=fin _ hys
  obtain⟨v,rfl⟩:=FH h2.1.symm
  exact⟨v,by simpa using h1,h2.2 0 y v rfl rfl⟩
 ·rename_i ys hne0 hne1 hys
  injection h with h
  subst h
  obtain⟨vs,h1,h2⟩:=fin _ hys
  have hl:vs.length≠1:=by
   intro h
   rw[←h2.1]at h
   obtain⟨y,hy⟩:=FH h
   exact hne1 y hy
  refine⟨.tuple vs.toArray,?_,.tup ?_ (by simpa using h2.1) fun i c u hc hu=>h2.2 i c u hc (by simpa using hu)⟩
  ·rw[h1,dif_neg (by simpa using hl)]
  ·intro e
   exact hne0 e
 ·cases h
def marks(ds:List Nat):List Deferred:=ds.map fun D => { target := .collected D,args := #[]}
def ox(w w':World)(ds:List Nat):Prop:=ds.Nodup ∧∀D∈ds,w.heap.size≤D∧w'.heap[D]?=some (.deferred (some []))
theorem Cd{M:Mem}{ι:Map}{g:dk}{w:World}(hS:fh M ι g w){D:Nat}{x:Option (List Deferred)}(h:w.heap[D]?=some (.deferred x)) : ∀r k l,g r=some k→ι r=some l→l.b≠D:=by
 intro r k l hg hl e
 obtain⟨l',hl',hb⟩:=hS.live r k hg
 rw[hl]at hl';cases hl'
 rcases Nat.eq_zero_or_pos k.esz with ez | ez
 ·rcases(hb.objOk ez).obj with ⟨_,h2⟩ | ⟨_,_,h2⟩ | ⟨_,_,_,_,_,_,h2⟩
  ·rw[e,h]at h2;cases h2
  ·rw[e,h]at h2;cases h2
  ·rw[e,h]at h2;cases h2
 ·obtain⟨_,_,_,h2,_⟩:=(hb.cellsOk ez).heap
  rw[e,h]at h2;cases h2
theorem ox.fwd{w w1 w2:World}{ds:List Nat}{M1 ι1 g1 M2 ι2 g2}(h:ox w w1 ds)(hS:fh M1 ι1 g1 w1)(hF:pA M1 ι1 g1 w1 M2 ι2 g2 w2):ox w w2 ds :=
 ⟨h.1,fun D hD=>⟨(h.2 D hD).1,by
  have h2:=(h.2 D hD).2
  rw[hF.chg D (Array.getElem?_eq_some_iff.1 h2).1 (Cd hS h2)]
  exact h2⟩⟩
theorem ox.append{w w1 w2:World}{ds ds2:List Nat}(hs:w.heap.size≤w1.heap.size)(h:ox w w2 ds)(h' : ∀D∈ds,D<w1.heap.size)(h2:ox w1 w2 ds2):ox w w2 (ds2++ds):=by
 refine⟨List.nodup_append.2 ⟨h2.1,h.1,fun a ha b hb e=>?_⟩,fun D hD=>?_⟩
 ·have:=(h2.2 a ha).1
  have:=h' b hb
  omega
 ·rcases List.mem_append.1 hD with h3 | h3
  ·exact⟨Nat.le_trans hs (h2.2 D h3).1,(h2.2 D h3).2⟩
  ·exact h.2 D h3
def Bh(P:Program)(rd:Option Ref)(M:Mem)(ι:Map)(st:St)(a:Act)(w:World)(nt:Nat)(st':St)(b:Frame)(cs:List Frame)(m:Machine):Prop:=match rd with
 | none=>b.roundOf=none→b.kind = .normal →∃a' w' todo ds,(∃M' ι',qU M' ι' st' nt a' w'∧pA M ι st.hp.get w M' ι' st'.hp.get w')∧a'.defers=marks ds++a.defers∧ox w w' ds ∧
  Steps P m (lone { b.atR a' todo with mode := .returning} cs w')
 | some r =>∀l c cs',ι r=some l→b.roundOf=some l.b→b.kind = .normal→cs=c :: cs' →∃n inf w',tE st'.hp r=some (n,inf)∧n≠1 ∧
  (∃M' ι',fh M' ι' st'.hp.get w'∧pA M ι st.hp.get w M' ι' st'.hp.get w'∧pB ι' st'.hp)∧Steps P m (lone (c.finish (.bool (n == 0))) cs' w')
theorem Bh.of_steps{P:Program}{rd:Option Ref}{M M1:Mem}{ι ι1:Map}{st st1 st':St}{a a1:Act}{w w1:World}{nt:Nat}{b:Frame}{cs:List Frame}{m m1:Machine}{ds:List Nat}
 (hs:b.roundOf=none∨rd≠none→b.kind = .normal→Steps P m m1) (hS1:fh M1 ι1 st1.hp.get w1) (hF:pA M ι st.hp.get w M1 ι1 st1.hp.get w1) (hd:a1.defers=marks ds++a.defers) (hm:ox w w1 ds) (h:Bh P rd M1 ι1 st1 a1 w1 nt st' b cs m1):Bh P rd M ι st a w nt st' b cs m:=by
 unfold Bh at h ⊢
 cases rd with
 | none =>
  intro hb hkn
  obtain⟨a',w',todo,ds2,⟨M',ι',hO,hF2⟩,hd2,hm2,hst⟩:=h hb hkn
  refine⟨a',w',todo,ds2++ds,⟨M',ι',hO,hF.trans hF2⟩,?_,(hm.fwd hS1 hF2).append hF.size (fun D hD=>(Array.getElem?_eq_some_iff.1 (hm.2 D hD).2).1) hm2,(hs (.inl hb) hkn).trans hst⟩
  rw[hd2,hd]
  simp[marks]
 | some r =>
  intro l c cs' hr hb hk hcs
  obtain⟨n,inf,w',h1,h2,⟨M',ι',h3,h4,h5⟩,hst⟩:=h l c cs' (hF.map r l hr) hb hk hcs
  exact⟨n,inf,w',h1,h2,⟨M',ι',h3,hF.trans h4,h5⟩,(hs (.inr (by simp)) hk).trans hst⟩
theorem pj{w w':World}:ox w w' []:=⟨List.nodup_nil,fun D h=>by cases h⟩
def IC(E:Env)(ok:Array Oper→Bool)(n:Nat):Prop :=
 ∀(rd:Option Ref)(nt dep:Nat)(items:List Item)(st st':St),ct E n rd nt dep items st=some st'→(∀i∈items,k5 ok i=true) →∀(M:Mem)(ι:Map)(a:Act)(w:World),qU M ι st nt a w →
  ∀(b:Frame)(cs:List Frame),Bh E.P rd M ι st a w nt st' b cs (lone (b.atR a items) cs w)
theorem Hz{P:Program}{fr:Frame}{cs:List Frame} : ∀(ds:List Nat)(w:World),fr.mode = .returning→ds.Nodup→(∀D∈ds,w.heap[D]?=some (.deferred (some []))) →
 ∃w',Steps P (lone { fr with defers:=marks ds} cs w) (lone { fr with defers:=[]} cs w')∧w'.os=w.os∧w'.tape=w.tape∧w'.output=w.output∧w'.heap.size=w.heap.size ∧∀b,b ∉ ds→w'.heap[b]?=w.heap[b]?:=by
 intro ds
 induction ds with
 | nil=>intro w _ _ _;exact⟨w,Steps.refl _ _,rfl,rfl,rfl,rfl,fun _ _=>rfl⟩
 | cons D ds ih =>
  intro w hm hnd hh
  have h1:=run_takeDeferred (P:=P) (hh D (List.mem_cons_self ..))
  have hstep:=step_collected (P:=P) (fr := { fr with defers:=marks (D :: ds)}) (cs:=cs) (w:=w) (d := { target := .collected D,args := #[]}) (r:=D) (ds:=marks ds) (by simp[hm]) rfl rfl h1
  obtain⟨w',h2,h3,h4,h5,h6,h7⟩:=ih (w.putObj D (.deferred none)) hm (List.nodup_cons.1 hnd).2 (fun D' hD'=>by
   rw[World.putObj_heap_other (by intro e;subst e;exact(List.nodup_cons.1 hnd).1 hD')]
   exact hh D' (List.mem_cons_of_mem _ hD'))
  refine⟨w',Steps.trans (.one hstep) (by simpa using h2),h3,h4,h5,by rw[h6];simp,fun b hb=>?_⟩
  rw[h7 b (fun h=>hb (List.mem_cons_of_mem _ h)),World.putObj_heap_other (by intro e;subst e;exact hb (List.mem_cons_self ..))]
theorem fh.other{M:Mem}{ι:Map}{g:dk}{w w':World}(hS:fh M ι g w){ds:List Nat}(hds : ∀D∈ds,w.heap[D]?=some (.deferred (some [])))(h : ∀b,b ∉ ds→w'.heap[b]?=w.heap[b]?):fh M ι g w':=by
 refine⟨fun b o x hx=>?_,fun r k hr=>?_,hS.inj⟩
 ·have h1:=hS.mem b o x hx
  have hb:b ∉ ds:=by
   intro hb
   have:=hds b hb
   simp[World.cell?,this]at h1
  rw[World.cell?_of_block (w:=w) (h b hb)]
  exact h1
 ·obtain⟨l,hl,hb⟩:=hS.live r k hr
  exact⟨l,hl,hb.cV (fun _ _ _ h=>h) (fun _ _ h=>h) (h l.b fun hD=>Cd hS (hds _ hD) r k l hr hl rfl) hb.frozen⟩
theorem E0{ok:Array Oper→Bool}(hE:E.Ok ok){n:Nat}(hn:IC E ok n){dep:Nat}{f:FuncId}{args:List AV}{H H':ab}{x:AV}(h:qA E (ct E n) dep f args H=some (x,H')):nc E.P (.fn f) args H x H':=by
 unfold qA at h
 obtain⟨hal,h⟩:=Option.ite_none_right_eq_some.1 h
 obtain⟨fn,hfn,hname,hbody⟩:=hE.fns f hal
 rw[hfn]at h
 simp only at h
 split at h
 ·rename_i c hc
  obtain⟨hlen,h⟩:=Option.ite_none_right_eq_some.1 h
  split at h
  ·rename_i st hst
   simp only[Option.map_eq_some_iff]at h
   obtain⟨x',hx',h⟩:=h
   injection h with h1 h2
   subst h1;subst h2
   refine⟨⟨fn,hfn,hname,by rw[hc];rfl⟩,?_⟩
   intro M ι w us hS hD hv cs
   have hul:=hv.1
   have hO:qU M ι ⟨args,H⟩ fn.ntmps { tmps:=us.toArray++Array.replicate (fn.ntmps - us.toArray.size) undef,defers:=[]} w:=by
    refine⟨hS,hD,⟨?_⟩,by simp;omega⟩
    intro t
    rw[Ei,Array.getD_eq_getD_getElem?]
    rcases Nat.lt_or_ge t args.length with ht | ht
    ·rw[List.getElem?_eq_getElem ht,Array.getElem?_append_left (by simp;omega),Option.getD_some]
     have hu:us[t]?=some (us[t]'(by omega)):=List.getElem?_eq_getElem _
     simp only[List.getElem?_toArray,hu,Option.getD_some]
     exact hv.2 t _ _ (List.getElem?_eq_getElem ht) hu
    ·rw[List.getElem?_eq_none ht,Array.getElem?_append_right (by simp;omega)]
     have : ∀k:Nat,((Array.replicate (fn.ntmps - us.toArray.size) undef)[k]?).getD undef=undef:=by
      intro k
      rw[Array.getElem?_replicate]
      split<;>rfl
     rw[this]
     exact .v rfl
   let b:Frame := { (default:Frame)with fn:=f,kind := .normal}
   have henter:Frame.enter E.P f us.toArray .normal=b.atR { tmps:=us.toArray++Array.replicate (fn.ntmps - us.toArray.size) undef,defers:=[]} [.code c]:=by
    simp[Frame.enter,Frame.atR,hfn,hc,b]
    rfl
   obtain⟨a',w',todo,ds,⟨M',ι',hO',hF⟩,hdf,hmk,hsteps⟩:=hn none fn.ntmps dep [.code c] ⟨args,H⟩ st hst (by intro i hi;simp at hi;subst hi;exact hbody c hc) M ι _ w hO b cs rfl rfl
   rw[←henter]at hsteps
   simp only[List.append_nil]at hdf
   obtain⟨w2,h2,h3,h4,h5,h6,h7⟩:=Hz (P:=E.P) (fr := { b.atR a' todo with mode := .returning}) (cs:=cs) ds w' rfl hmk.1 (fun D hD=>(hmk.2 D hD).2)
   have hfr : { { b.atR a' todo with mode := .returning} with defers:=marks ds} = { b.atR a' todo with mode := .returning}:=by rw[←show a'.defers=marks ds from hdf];rfl
   rw[hfr]at h2
   have hS2:=hO'.sim.other (fun D hD=>(hmk.2 D hD).2) h7
   have hF2:pA M ι H.get w M' ι' st.hp.get w2:=by
    refine⟨h3.trans hF.os,h4.trans hF.tape,h5.trans hF.output,by rw[h6];exact hF.size,fun b0 hb0 hno=>?_,hF.mem,hF.map,hF.live,hF.new⟩
    rw[h7 b0 fun hD=>absurd (hmk.2 b0 hD).1 (by omega)]
    exact hF.chg b0 hb0 hno
   obtain⟨v,hr,hvr⟩:=I8 (w:=w2) ⟨hS2,hO'.dom,hO'.tr,hO'.nt⟩ hx'
   exact⟨.returned v,w2, { { b.atR a' todo with mode := .returning} with defers:=[]},⟨v,rfl,M',ι',hvr,hS2,hF2,hO'.dom⟩,Steps.trans hsteps h2,rfl,rfl,rfl,rfl,fn,hfn,hr⟩
  ·cases h
 ·cases h
end
end Go.Ab
namespace Go.Ab
theorem AG{g:dk}(r:Ref) : ∀(n m:Nat)(x y:AV)(bs:List bN),view g n x=some y→aN r m y bs=(y,bs):=by
 intro n
 induction n with
 | zero=>intro m x y bs h;simp[view]at h
 | succ n ih =>
  intro m x y bs h
  cases m with
  | zero=>rfl
  | succ m =>
   have lists : ∀(cs ys acc:List AV),cs.mapM (view g n)=some ys→ys.foldl (fun(p:List AV × List bN) c=>(p.1++[(aN r m c p.2).1],(aN r m c p.2).2)) (acc,bs)=(acc++ys,bs):=by
    intro cs
    induction cs with
    | nil=>intro ys acc h;simp at h;subst h;simp
    | cons c cs ihc =>
     intro ys acc h
     simp only[List.mapM_cons,Option.pure_def,Option.bind_eq_bind,Option.bind_eq_some_iff]at h
     obtain⟨y,hy,ys',hys,h⟩:=h
     simp at h
     subst h
     rw[List.foldl_cons,ih m c y bs hy,ihc ys' (acc++[y]) hys]
     simp
   cases x with
   | agg cs =>
    simp only[view,Option.map_eq_some_iff]at h
    obtain⟨ys,hys,rfl⟩:=h
    have:=lists cs ys [] hys
    simp only[aN]
    rw[this]
    simp
   | tup cs =>
    simp only[view,Option.map_eq_some_iff]at h
    obtain⟨ys,hys,rfl⟩:=h
    have:=lists cs ys [] hys
    simp only[aN]
    rw[this]
    simp
   | v x=>simp[view]at h;subst h;rfl
   | cw=>simp[view]at h;subst h;rfl
   | iptr=>simp[view]at h;subst h;rfl
   | fsl=>simp[view]at h
   | cM r' off len cap =>
    simp only[view]at h
    split at h
    ·split at h
     ·cases h;rfl
     ·cases h
    ·cases h
   | ptr r' i j =>
    simp only[view]at h
    split at h
    ·split at h
     ·cases h;rfl
     ·simp only[Option.map_eq_some_iff]at h;obtain⟨_,_,rfl⟩:=h;rfl
    ·cases h
   | fn f a b =>
    simp only[view]at h
    split at h
    ·cases h;rfl
    ·cases h
   | ifc t x =>
    simp only[view,Option.map_eq_some_iff]at h
    obtain⟨y,hy,rfl⟩:=h
    simp only[aN]
    rw[ih m x y bs hy]
   | yld=>simp[view]at h
   | mp=>simp[view]at h
   | ch=>simp[view]at h
   | lp=>simp[view]at h
def bQ(g:dk):Nat→AV→List Ref
 | 0,_=>[]
 | n+1,x =>
  match x with
  | .agg cs | .tup cs=>cs.flatMap (bQ g n)
  | .cM r 0 len _=>(match g r with | some b=>if b.jb then [] else [r] | none=>[])
  | .mp r=>[r]
  | .ifc _ x=>bQ g n x
  | _=>[]
def dt(g:dk):Nat→AV→List Ref
 | 0,_=>[]
 | n+1,x =>
  match x with
  | .agg cs | .tup cs=>cs.flatMap (dt g n)
  | .cM r 0 len _=>(match g r with | some b=>if b.jb then [r] else [] | none=>[r])
  | .mp _=>[]
  | .ifc _ x=>dt g n x
  | x=>aH g (n+1) x
theorem FP{g:dk} : ∀(n:Nat)(x:AV)(r:Ref),r∈bQ g n x→r∈aH g n x:=by
 intro n
 induction n with
 | zero=>intro x r h;simp[bQ]at h
 | succ n ih =>
  intro x r h
  unfold bQ at h
  split at h
  ·simp only[List.mem_flatMap]at h
   obtain⟨c,hc,hr⟩:=h
   simp only[aH,List.mem_flatMap]
   exact⟨c,hc,ih c r hr⟩
  ·simp only[List.mem_flatMap]at h
   obtain⟨c,hc,hr⟩:=h
   simp only[aH,List.mem_flatMap]
   exact⟨c,hc,ih c r hr⟩
  ·split at h
   ·split at h
    ·cases h
    ·simpa [aH] using h
   ·cases h
  ·simpa [aH] using h
  ·simp only[aH];exact ih _ r h
  ·cases h
theorem CK{g:dk} : ∀(n:Nat)(x:AV),(aH g n x).Nodup→(bQ g n x).Nodup ∧∀r∈bQ g n x,r ∉ dt g n x:=by
 intro n
 induction n with
 | zero=>intro x h;simp[bQ]
 | succ n ih =>
  intro x h
  have seen_mem : ∀(n:Nat)(x:AV)(r:Ref),r∈dt g n x→r∈aH g n x:=by
   intro n
   induction n with
   | zero=>intro x r h;simp[dt]at h
   | succ n ih2 =>
    intro x r h
    unfold dt at h
    split at h
    ·simp only[List.mem_flatMap]at h
     obtain⟨c,hc,hr⟩:=h
     simp only[aH,List.mem_flatMap]
     exact⟨c,hc,ih2 c r hr⟩
    ·simp only[List.mem_flatMap]at h
     obtain⟨c,hc,hr⟩:=h
     simp only[aH,List.mem_flatMap]
     exact⟨c,hc,ih2 c r hr⟩
    ·split at h
     ·split at h
      ·simpa [aH] using h
      ·cases h
     ·simpa [aH] using h
    ·cases h
    ·simp only[aH];exact ih2 _ r h
    ·exact h
  have lists : ∀cs:List AV,(cs.flatMap (aH g n)).Nodup→(cs.flatMap (bQ g n)).Nodup ∧∀r∈cs.flatMap (bQ g n),r ∉ cs.flatMap (dt g n):=by
   intro cs
   induction cs with
   | nil=>intro _;simp
   | cons c cs ihc =>
    intro hn
    rw[List.flatMap_cons,List.nodup_append]at hn
    obtain⟨h1,h2,h3⟩:=hn
    obtain⟨h4,h5⟩:=ih c h1
    obtain⟨h6,h7⟩:=ihc h2
    have expL : ∀r,r∈cs.flatMap (bQ g n)→r∈cs.flatMap (aH g n):=by
     intro r hr
     simp only[List.mem_flatMap]at hr ⊢
     obtain⟨d,hd,hr⟩:=hr
     exact⟨d,hd,FP n d r hr⟩
    have seenL : ∀r,r∈cs.flatMap (dt g n)→r∈cs.flatMap (aH g n):=by
     intro r hr
     simp only[List.mem_flatMap]at hr ⊢
     obtain⟨d,hd,hr⟩:=hr
     exact⟨d,hd,seen_mem n d r hr⟩
    refine⟨?_,?_⟩
    ·rw[List.flatMap_cons,List.nodup_append]
     exact⟨h4,h6,fun a ha b hb e=>h3 a (FP n c a ha) b (expL b hb) e⟩
    ·intro r hr hs
     rw[List.flatMap_cons,List.mem_append]at hr hs
     rcases hr with hr | hr<;>rcases hs with hs | hs
     ·exact h5 r hr hs
     ·exact h3 r (FP n c r hr) r (seenL r hs) rfl
     ·exact h3 r (seen_mem n c r hs) r (expL r hr) rfl
     ·exact h7 r hr hs
  cases x with
  | agg cs=>simpa [bQ,dt] using lists cs (by simpa [aH] using h)
  | tup cs=>simpa [bQ,dt] using lists cs (by simpa [aH] using h)
  | cM r off len cap =>
   cases off with
   | zero =>
    simp only[bQ,dt]
    cases hg:g r with
    | none=>simp
    | some b=>cases hb:b.jb<;>simp[hb]
   | succ off=>simp[bQ]
  | mp r=>simp[bQ,dt]
  | ifc t x=>simpa [bQ,dt] using ih x (by simpa [aH] using h)
  | _=>simp[bQ]
def Out(g:dk)(q:Ref)(b:bN):Prop :=
 (∃k len,g q=some k∧k.jb=false∧k.arr=true∧b=⟨k.esz,k.es.take len,true,false⟩) ∨∃k ents,g q=some k∧hJ g q=some ents∧(∀e∈ents,flat depth e=true)∧b=bw ents
theorem EK{g:dk}{q:Ref}{ents:List AV}(h:hJ g q=some ents) : ∃k,g q=some k∧k.esz=0∧k.es = .v (.bool true) :: ents:=by
 unfold hJ at h
 split at h
 ·rename_i e f hg
  cases h
  exact⟨_,hg,rfl,rfl⟩
 ·cases h
theorem Me{M:Mem}{ι:Map}{g:dk}{w:World}{R:List Ref}(hS:fh M ι g w)(r:Ref) : ∀(n:Nat)(x y:AV)(u:Value)(bs:List bN),dN g n x=some y→VR M ι x u →
 (∀q∈dt g n x,q∈R) →
 ∃new:List bN,(aN r n y bs).2=bs++new∧new.length=(bQ g n x).length ∧
  (∀(i:Nat) q b,(bQ g n x)[i]?=some q→new[i]?=some b→Out g q b) ∧
  ∀ls:List Loc,(∀(i:Nat) q l,(bQ g n x)[i]?=some q→ι q=some l→ls[bs.length+i]?=some l)→VR (kQ M ι g w R) (jt r ls) (aN r n y bs).1 u:=by
 intro n
 induction n with
 | zero=>intro x y u bs h;simp[dN]at h
 | succ n ih =>
  intro x y u bs h hv hR
  have plain:view g (n+1) x=some y→bQ g (n+1) x=[]→(∀q∈aH g (n+1) x,q∈R) →∃new:List bN,(aN r (n+1) y bs).2=bs++new∧new.length=(bQ g (n+1) x).length ∧
   (∀(i:Nat) q b,(bQ g (n+1) x)[i]?=some q→new[i]?=some b→Out g q b) ∧
   ∀ls:List Loc,(∀(i:Nat) q l,(bQ g (n+1) x)[i]?=some q→ι q=some l→ls[bs.length+i]?=some l)→VR (kQ M ι g w R) (jt r ls) (aN r (n+1) y bs).1 u:=by
   intro h1 h2 h3
   rw[AG r (n+1) (n+1) x y bs h1]
   exact⟨[],by simp,by rw[h2];rfl,by rw[h2];intro i q b hq;simp at hq,fun ls _=>(xR hS (n+1) x y u h1 h3 hv).up _⟩
  have lists : ∀(cs ys:List AV)(us:List Value)(acc:List AV)(bs:List bN),cs.mapM (dN g n)=some ys→jC M ι cs us→(∀q∈cs.flatMap (dt g n),q∈R) →
   ∃(new:List bN) (zs:List AV),ys.foldl (fun(p:List AV × List bN) c=>(p.1++[(aN r n c p.2).1],(aN r n c p.2).2)) (acc,bs)=(acc++zs,bs++new)∧new.length=(cs.flatMap (bQ g n)).length ∧
    (∀(i:Nat) q b,(cs.flatMap (bQ g n))[i]?=some q→new[i]?=some b→Out g q b) ∧
    ∀ls:List Loc,(∀(i:Nat) q l,(cs.flatMap (bQ g n))[i]?=some q→ι q=some l→ls[bs.length+i]?=some l)→jC (kQ M ι g w R) (jt r ls) zs us:=by
   intro cs
   induction cs with
   | nil =>
    intro ys us acc bs hy hvs _
    simp at hy
    subst hy
    have:us=[]:=List.eq_nil_of_length_eq_zero (by rw[←hvs.1];rfl)
    subst this
    exact⟨[],[],by simp,rfl,by intro i q b hq;simp at hq,fun _ _=>jC.nil⟩
   | cons c cs ihc =>
    intro ys us acc bs hy hvs hRc
    simp only[List.mapM_cons,Option.pure_def,Option.bind_eq_bind,Option.bind_eq_some_iff]at hy
    obtain⟨y,hy1,ys',hys,hy2⟩:=hy
    simp at hy2
    subst hy2
    cases us with
    | nil=>have:=hvs.1;simp at this
    | cons u us =>
     have hvc:VR M ι c u:=hvs.2 0 c u rfl rfl
     have hvcs:jC M ι cs us:=⟨by have:=hvs.1;simpa using this,fun i x v hx hv=>hvs.2 (i+1) x v (by simpa using hx) (by simpa using hv)⟩
     simp only[List.flatMap_cons,List.mem_append]at hRc
     obtain⟨new1,h1,h2,h3,h4⟩:=ih c y u bs hy1 hvc (fun q hq=>hRc q (.inl hq))
     obtain⟨new2,zs,h5,h6,h7,h8⟩:=ihc ys' us (acc++[(aN r n y bs).1]) (bs++new1) hys hvcs (fun q hq=>hRc q (.inr hq))
     refine⟨new1++new2,(aN r n y bs).1 :: zs,?_,?_,?_,?_⟩
     ·rw[List.foldl_cons]
      simp only
      rw[h1,h5]
      simp
     ·simp[h2,h6]
     ·intro i q b hq hb
      rw[List.flatMap_cons]at hq
      rcases Nat.lt_or_ge i (bQ g n c).length with hi | hi
      ·rw[List.getElem?_append_left hi]at hq
       rw[List.getElem?_append_left (by omega)]at hb
       exact h3 i q b hq hb
      ·rw[List.getElem?_append_right hi]at hq
       rw[List.getElem?_append_right (by omega),h2]at hb
       exact h7 _ q b hq hb
     ·intro ls hls
      refine jC.cons (h4 ls ?_) (h8 ls ?_)
      ·intro i q l hq hl
       refine hls i q l ?_ hl
       rw[List.flatMap_cons,List.getElem?_append_left (List.getElem?_eq_some_iff.1 hq).1]
       exact hq
      ·intro i q l hq hl
       have:=hls ((bQ g n c).length+i) q l (by
        rw[List.flatMap_cons,List.getElem?_append_right (by omega),Nat.add_sub_cancel_left]
        exact hq) hl
       rw[List.length_append,h2,Nat.add_assoc]
       exact this
  cases x with
  | agg cs =>
   simp only[dN,Option.map_eq_some_iff]at h
   obtain⟨ys,hys,rfl⟩:=h
   obtain⟨vs,rfl,hvs⟩:=hv.KY
   obtain⟨new,zs,h1,h2,h3,h4⟩:=lists cs ys vs.toList [] bs hys hvs (by simpa [dt] using hR)
   simp only[aN]
   rw[h1]
   refine⟨new,rfl,by simpa [bQ] using h2,by simpa [bQ] using h3,fun ls hls=>?_⟩
   have:=h4 ls (by simpa [bQ] using hls)
   simpa using VR.oe.2 this
  | tup cs =>
   simp only[dN,Option.map_eq_some_iff]at h
   obtain⟨ys,hys,rfl⟩:=h
   cases hv with | tup h0 hl hh =>
   rename_i vs
   obtain⟨new,zs,h1,h2,h3,h4⟩:=lists cs ys vs.toList [] bs hys ⟨by simpa using hl,fun i x u hx hu=>hh i x u hx (by simpa using hu)⟩ (by simpa [dt] using hR)
   simp only[aN]
   rw[h1]
   refine⟨new,rfl,by simpa [bQ] using h2,by simpa [bQ] using h3,fun ls hls=>?_⟩
   have:=h4 ls (by simpa [bQ] using hls)
   simp only[List.nil_append]
   refine .tup ?_ (by simpa using this.1) fun i c u hc hu=>this.2 i c u hc (by simpa using hu)
   intro e
   rw[e]at this
   have h5:=this.1
   simp at h5
   have h6:vs.size=0:=by omega
   rw[h6]at hl
   exact h0 (List.eq_nil_of_length_eq_zero hl)
  | cM q off len cap =>
   cases off with
   | succ off=>exact plain (by simpa [dN] using h) (by simp[bQ]) (by simpa [dt] using hR)
   | zero =>
    simp only[dN]at h
    split at h
    ·rename_i k hk
     obtain⟨⟨harr,hlen⟩,h⟩:=Option.ite_none_right_eq_some.1 h
     injection h with h
     cases hfr:k.jb with
     | true =>
      rw[hfr]at h
      simp only[if_true]at h
      refine plain ?_ (by simp[bQ,hk,hfr]) (by
       intro q' hq'
       refine hR q' ?_
       simp only[aH,List.mem_singleton]at hq'
       simp[dt,hk,hfr,hq'])
      simp only[view,hk,harr]
      rw[if_pos ⟨trivial,by omega⟩]
      simp[←h]
     | false =>
      rw[hfr]at h
      simp only[Bool.false_eq_true,if_false]at h
      subst h
      have hexp:bQ g (n+1) (.cM q 0 len cap)=[q]:=by simp[bQ,hk,hfr]
      cases hv with | cM hr hb hs ha hc hn hkk hzl =>
      rename_i l a c
      have hl2:(k.es.take len).length=len:=by rw[List.length_take];omega
      have hkz0:k.esz≠0:=by
       obtain⟨l0,hl0,hbk⟩:=hS.live q k hk
       have:=hbk.pos harr
       omega
      refine⟨[⟨k.esz,k.es.take len,true,false⟩],by simp[aN,hkz0],by rw[hexp];rfl,?_,?_⟩
      ·intro i q' b hq' hb'
       rw[hexp]at hq'
       cases i with
       | succ i=>simp at hq'
       | zero =>
        simp at hq' hb'
        subst hq';subst hb'
        exact .inl ⟨k,len,hk,hfr,harr,rfl⟩
      ·intro ls hls
       have:=hls 0 q l (by rw[hexp];rfl) hr
       simp only[aN,hl2,if_neg hkz0]
       refine .cM (l:=l) ?_ hb hs ha hc hn hkk hzl
       unfold jt
       simpa using this
    ·cases h
  | v x=>exact plain (by simpa [dN] using h) (by simp[bQ]) (by simpa [dt] using hR)
  | cw=>exact plain (by simpa [dN] using h) (by simp[bQ]) (by simpa [dt] using hR)
  | iptr=>exact plain (by simpa [dN] using h) (by simp[bQ]) (by simpa [dt] using hR)
  | fsl=>exact plain (by simpa [dN] using h) (by simp[bQ]) (by simpa [dt] using hR)
  | ptr=>exact plain (by simpa [dN] using h) (by simp[bQ]) (by simpa [dt] using hR)
  | fn=>exact plain (by simpa [dN] using h) (by simp[bQ]) (by simpa [dt] using hR)
  | ifc t x =>
   simp only[dN,Option.map_eq_some_iff]at h
   obtain⟨y,hy,rfl⟩:=h
   cases hv with | ifc hv =>
   obtain⟨new,h1,h2,h3,h4⟩:=ih x y _ bs hy hv (by simpa [dt] using hR)
   simp only[aN]
   exact⟨new,h1,by simpa [bQ] using h2,by simpa [bQ] using h3,fun ls hls => .ifc (h4 ls (by simpa [bQ] using hls))⟩
  | yld=>simp[dN,view]at h
  | ch q=>simp[dN,view]at h
  | mp q =>
   simp only[dN]at h
   split at h
   ·rename_i ents hm
    obtain⟨hfl,h⟩:=Option.ite_none_right_eq_some.1 h
    injection h with h
    subst h
    have hexp:bQ g (n+1) (.mp q)=[q]:=by simp[bQ]
    cases hv with | mp hr hz =>
    rename_i l
    obtain⟨k,hk,_,_⟩:=EK hm
    refine⟨[bw ents],by simp[aN,bw],by rw[hexp];rfl,?_,?_⟩
    ·intro i q' b hq' hb'
     rw[hexp]at hq'
     cases i with
     | succ i=>simp at hq'
     | zero =>
      simp at hq' hb'
      subst hq';subst hb'
      exact .inr ⟨k,ents,hk,hm,by simpa [List.all_eq_true] using hfl,rfl⟩
    ·intro ls hls
     have:=hls 0 q l (by rw[hexp];rfl) hr
     simp only[aN,if_true]
     refine .mp (l:=l) ?_ hz
     unfold jt
     simpa using this
   ·cases h
  | lp=>simp[dN,view]at h
end Go.Ab
namespace Go.Ab
theorem yF:ab.get []=fun _=>none:=by funext q;rfl
theorem P1{M:Mem}{w:World}(hm : ∀b o x,M b o=some x→w.cell? ⟨b,o,none⟩=some x):fh M ed (ab.get []) w :=
 ⟨hm,(fun r k h=>by rw[yF]at h;cases h),(fun r r' k k' l l' h=>by rw[yF]at h;cases h)⟩
theorem Rc:pB ed []:=fun q l h=>by cases h
theorem G8{M:Mem}{w:World}(hm : ∀b o x,M b o=some x→w.cell? ⟨b,o,none⟩=some x){H':ab}{v:Value}{w':World}{M1:Mem}{ι1:Map}{x:AV}
 (hv:VR M1 ι1 x v) (hS:fh M1 ι1 H'.get w') (hF:pA M ed (ab.get []) w M1 ι1 H'.get w') {R:List Ref} {y:AV}
 (hres : ∀r:Ref,∃ls:List Loc,ls.length=(aN r depth y []).2.length∧VR (kQ M1 ι1 H'.get w' R) (jt r ls) (aN r depth y []).1 v ∧
  (∀(k:Nat) l b,ls[k]?=some l→(aN r depth y []).2[k]?=some b→mb (kQ M1 ι1 H'.get w' R) ed w' l b∧w.heap.size≤l.b) ∧
  ∀(i j:Nat) l l',ls[i]?=some l→ls[j]?=some l'→l.b=l'.b→i=j):uc M w y v (kQ M1 ι1 H'.get w' R) w':=by
 obtain⟨hS2,hF2⟩:=vm (R:=R) hS
 have hF3:=hF.trans hF2
 refine⟨hF.os,hF.tape,hF.output,hF.size,fun b hb=>hF.chg b hb (fun r k l h=>by rw[yF]at h;cases h),hF3.mem,tS hS.mem,?_,hres⟩
 intro b o z hz
 rcases hF3.new b o z hz with h | h | ⟨r0,k0,l0,h,_⟩
 ·exact .inl h
 ·exact .inr h
 ·rw[yF]at h;cases h
theorem Hu{M:Mem}{w:World}{H':ab}{w':World}{M1:Mem}{ι1:Map}(hF:pA M ed (ab.get []) w M1 ι1 H'.get w'){r:Ref}{k:bN}{l:Loc}(h1:H'.get r=some k)(h2:ι1 r=some l):w.heap.size≤l.b:=by
 rcases hF.live r k l h1 h2 with h | ⟨r0,k0,l0,h,_⟩
 ·exact h
 ·rw[yF]at h;cases h
theorem Out.live{g:dk}{q:Ref}{b:bN}(h:Out g q b) : ∃k,g q=some k:=by
 rcases h with ⟨k,_,hk,_⟩ | ⟨k,_,hk,_⟩<;>exact⟨k,hk⟩
theorem Ma : ∀(n:Nat)(x:AV),flat n x=true→flat (n+1) x=true:=by
 intro n
 induction n with
 | zero=>intro x h;simp[flat]at h
 | succ n ih =>
  intro x h
  cases x with
  | v x=>rfl
  | agg cs=>simp only[flat,List.all_eq_true]at h ⊢;exact fun c hc=>by have:=ih c (h c hc);simpa [flat] using this
  | tup cs=>simp only[flat,List.all_eq_true]at h ⊢;exact fun c hc=>by have:=ih c (h c hc);simpa [flat] using this
  | ifc t x=>have:=ih x (by simpa [flat] using h);simpa [flat] using this
  | fn f a b =>
   simp only[flat,Bool.and_eq_true,List.all_eq_true]at h ⊢
   exact⟨fun c hc=>by have:=ih c (h.1 c hc);simpa [flat] using this,fun c hc=>by have:=ih c (h.2 c hc);simpa [flat] using this⟩
  | _=>simp[flat]at h
theorem OC{cs:List AV}(h:flat depth (.tup cs)=true){c:AV}(hc:c∈cs):flat depth c=true:=by
 have h0:depth=(depth - 1)+1:=rfl
 rw[h0]at h ⊢
 simp only[flat,List.all_eq_true]at h
 exact Ma _ c (h c hc)
theorem ri{E:Env}{ok:Array Oper→Bool}(hE:E.Ok ok){n:Nat}(hn:IC E ok n){f:FuncId}{args:List AV}{y:AV}(h:dv E (ct E n) f args=some y):iL E.P f args y:=by
 unfold dv at h
 split at h
 ·rename_i s hs
  cases h
  exact hE.specs f args y hs
 ·split at h
  ·rename_i x H' hc
   obtain⟨hfn,hcall⟩:=E0 hE hn hc
   refine⟨hfn,fun M w us hm hvs=>?_⟩
   refine(hcall M ed w us (P1 hm) Rc hvs).mono fun e w' ⟨v,he,M1,ι1,hv,hS,hF,hD⟩=>⟨v,?_⟩
   split at h
   ·obtain⟨hnd,h⟩:=Option.ite_none_right_eq_some.1 h
    obtain⟨hnd1,hnd2⟩:=CK depth x hnd
    refine⟨_,he,G8 (R:=dt H'.get depth x) hm hv hS hF fun r=>?_⟩
    obtain⟨new,h1,h2,h3,h4⟩:=Me (R:=dt H'.get depth x) hS r depth x y v [] h hv (fun q hq=>hq)
    rw[List.nil_append]at h1
    let locOf:Ref→Loc:=fun q=>(ι1 q).getD ⟨0,0,0⟩
    refine⟨(bQ H'.get depth x).map locOf,by rw[h1];simp[h2],h4 _ ?_,?_,?_⟩
    ·intro i q l hq hl
     simp only[List.length_nil,Nat.zero_add,List.getElem?_map,hq,Option.map_some,locOf,hl,Option.getD_some]
    ·intro i l b hl hb
     rw[h1]at hb
     simp only[List.getElem?_map,Option.map_eq_some_iff]at hl
     obtain⟨q,hq,hql⟩:=hl
     rcases h3 i q b hq hb with ⟨k,len,hk,hfr,harr,rfl⟩ | ⟨k,ents,hk,hmap,hfl,rfl⟩
     rotate_left
     ·obtain⟨l0,hl0,hbk⟩:=hS.live q k hk
      have:l=l0:=by rw[←hql];simp[locOf,hl0]
      subst this
      have hz:l.esz=0:=by
       obtain⟨k1,hk1,hz1,_⟩:=EK hmap
       rw[hk]at hk1;cases hk1
       rw[hbk.esz];exact hz1
      obtain⟨a,f,entries,hg,hh,hsz,hent,_⟩:=wm hS hmap hl0 hz
      refine⟨kU.Mz (.inr (.inl ⟨ents,entries,rfl,rfl,rfl,hh,hsz,fun i' ent e he he'=>?_⟩)) hz (fun o z hx=>?_),Hu hF hk hl0⟩
      ·obtain⟨ka,va,e1,e2,e3⟩:=hent i' ent e he he'
       subst e1
       refine⟨ka,va,rfl,e2,wy depth va _ ?_ e3.1,e3.2⟩
       have:=hfl _ (List.mem_of_getElem? he)
       exact OC this (by simp)
      ·have:=(vm (R:=dt H'.get depth x) hS).1.mem _ _ _ hx
       simp[World.cell?,hh]at this
     obtain⟨l0,hl0,hbk⟩:=hS.live q k hk
     have:l=l0:=by rw[←hql];simp[locOf,hl0]
     subst this
     refine⟨?_,Hu hF hk hl0⟩
     have hkz:=hbk.pos harr
     replace hbk:=hbk.cellsOk hkz
     obtain⟨arr,T,fz,hh,g1,g2,g3⟩:=hbk.heap
     refine eX.Mz (k:=⟨k.esz,k.es.take len,true,false⟩) ⟨hbk.esz,⟨arr,T,fz,hh,g1,g2,?_⟩,by have:=hbk.len;simp;omega,fun e he=>hbk.cells e (List.mem_of_mem_take he),?_⟩ hkz
     ·intro i' j e x' he hx
      simp only at he
      rw[List.getElem?_take]at he
      split at he
      ·obtain⟨u,hu,ho,hvr⟩:=g3 i' j e x' he hx
       rw[bN.map,if_pos harr]at hvr
       exact⟨u,hu,ho,by rw[bN.map,if_pos rfl];exact hvr.mono rJ _ (fun _ _ h=>h)⟩
      ·cases he
     ·intro o z hz
      exfalso
      rcases xL hz with h5 | ⟨r',hr',k',l',hg',hl',hb',ho⟩
      ·have:=(hbk.frozen o z h5).1
       rw[hfr]at this
       cases this
      ·have e:=hS.inj r' q k' k l' l hg' hk hl' hl0 hb'
       subst e
       exact hnd2 r' (List.mem_of_getElem? hq) hr'
    ·intro i j l l' hi hj hb
     simp only[List.getElem?_map,Option.map_eq_some_iff]at hi hj
     obtain⟨q,hq,hql⟩:=hi
     obtain⟨q',hq',hql'⟩:=hj
     have hi2:i<new.length:=by rw[h2];exact(List.getElem?_eq_some_iff.1 hq).1
     have hj2:j<new.length:=by rw[h2];exact(List.getElem?_eq_some_iff.1 hq').1
     obtain⟨k,hk⟩:=(h3 i q _ hq (List.getElem?_eq_getElem hi2)).live
     obtain⟨k',hk'⟩:=(h3 j q' _ hq' (List.getElem?_eq_getElem hj2)).live
     obtain⟨l0,hl0,_⟩:=hS.live q k hk
     obtain⟨l0',hl0',_⟩:=hS.live q' k' hk'
     have e1:l=l0:=by rw[←hql];simp[locOf,hl0]
     have e2:l'=l0':=by rw[←hql'];simp[locOf,hl0']
     subst e1;subst e2
     have e:=hS.inj q q' k k' l l' hk hk' hl0 hl0' hb
     subst e
     exact(List.getElem?_inj (List.getElem?_eq_some_iff.1 hq).1 hnd1).1 (by rw[hq,hq'])
   ·refine⟨_,he,G8 (R:=aH H'.get depth x) hm hv hS hF fun r=>?_⟩
    rw[AG r depth depth x y [] h]
    exact⟨[],rfl,(xR hS depth x y v h (fun q hq=>hq) hv).up _,by intro k l b hl;simp at hl,by intro i j l l' hi;simp at hi⟩
  ·cases h
theorem IZ : ∀(ps:List Tmp)(xs:List AV)(tm:List AV)(us:List Value)(tmps:Array Value),((ps.zip us).foldl (fun tmps (p:Tmp × Value)=>tmps.setIfInBounds p.1 p.2) tmps).size=tmps.size:=by
 intro ps
 induction ps with
 | nil=>intro xs tm us tmps;rfl
 | cons p ps ih =>
  intro xs tm us tmps
  cases us with
  | nil=>rfl
  | cons u us=>simp only[List.zip_cons_cons,List.foldl_cons];rw[ih [] [] us];simp
theorem Lb{M:Mem}{ι:Map}{nt:Nat} : ∀(ps:List Tmp)(xs:List AV)(us:List Value)(tm:List AV)(tmps:Array Value),xs.length=ps.length→jC M ι xs us→(∀p∈ps,p<nt)→tmps.size=nt→(∀t,VR M ι (cU tm t) (tmps.getD t undef)) →
 ∀t,VR M ι (cU (rW tm ps xs) t) (((ps.zip us).foldl (fun tmps (p:Tmp × Value)=>tmps.setIfInBounds p.1 p.2) tmps).getD t undef):=by
 intro ps
 induction ps with
 | nil=>intro xs us tm tmps hl hv hp hn h t;cases xs<;>exact h t
 | cons p ps ih =>
  intro xs us tm tmps hl hv hp hn h t
  cases xs with
  | nil=>simp at hl
  | cons x xs =>
   cases us with
   | nil=>have:=hv.1;simp at this
   | cons u us =>
    simp only[List.zip_cons_cons,List.foldl_cons,rW]
    refine ih xs us _ _ (by simpa using hl) ⟨by have:=hv.1;simpa using this,fun i y v hy hv'=>hv.2 (i+1) y v (by simpa using hy) (by simpa using hv')⟩ (fun q hq=>hp q (List.mem_cons_of_mem _ hq)) (by simpa using hn) ?_ t
    intro t'
    have hpn:=hp p (List.mem_cons_self ..)
    rw[lN,Array.getD_eq_getD_getElem?]
    by_cases htp:t'=p
    ·subst htp
     rw[if_pos rfl,Array.getElem?_setIfInBounds_self_of_lt (by rw[hn];exact hpn)]
     exact hv.2 0 x u rfl rfl
    ·rw[if_neg htp,Array.getElem?_setIfInBounds_ne (Ne.symm htp),←Array.getD_eq_getD_getElem?]
     exact h t'
theorem Ee(ps:Array Tmp)(us:Array Value)(tmps:Array Value):(ps.zip us).foldl (fun tmps (t,a)=>tmps.setIfInBounds t a) tmps=(ps.toList.zip us.toList).foldl (fun tmps (p:Tmp × Value)=>tmps.setIfInBounds p.1 p.2) tmps:=by
 rw[←Array.foldl_toList,Array.toList_zip]
theorem I6{E:Env}{ok:Array Oper→Bool}(hE:E.Ok ok){n dep:Nat}(hn:IC E ok n){r:Ref}{args:List AV}{H H':ab}{y:AV}(h:wg E (ct E n) dep r args H=some (y,H')):nc E.P (.yld r) args H y H':=by
 unfold wg at h
 split at h
 ·rename_i f nt ps assign body tm hlp
  obtain⟨⟨hl,hps,hok1,hok2⟩,h⟩:=Option.ite_none_right_eq_some.1 h
  split at h
  ·rename_i st hst
   intro M ι w us l hS hD hvs hr
   obtain⟨nt',ps',as',bd',tm',lr,e,g1,g2,g3,g4,g5,g6,g7,_,_⟩:=wo hS hD hr hlp
   cases e
   have hsz:us.toArray.size=lr.params.size:=by rw[g2];simp;rw[←hl];exact hvs.1.symm
   refine⟨_,_,_,_,run_yield g1 hsz,trivial,fun c cs _=>?_⟩
   let b:Frame := { (default:Frame)with fn:=lr.fn,kind := .normal,roundOf:=some l.b}
   have hround : ∀tmps,Frame.round l.b lr.fn tmps lr.assign lr.body .normal=b.atR { tmps:=tmps,defers:=[]} [.code assign,.beginRound,.code body]:=by
    intro tmps
    simp[Frame.round,Frame.atR,b,g3,g4]
   rw[hround]
   have hO:qU M ι ⟨rW tm ps args,H⟩ nt { tmps:=(lr.params.zip us.toArray).foldl (fun tmps (t,a)=>tmps.setIfInBounds t a) lr.tmps,defers:=[]} w:=by
    refine⟨hS,hD,⟨?_⟩,?_⟩
    ·intro t
     show VR M ι _ (((lr.params.zip us.toArray).foldl (fun tmps (t,a)=>tmps.setIfInBounds t a) lr.tmps).getD t undef)
     rw[Ee,g2]
     exact Lb ps args us tm lr.tmps hl hvs (fun p hp=>by have:=List.all_eq_true.1 hps p hp;simpa using this) g5 g6 t
    ·show((lr.params.zip us.toArray).foldl (fun tmps (t,a)=>tmps.setIfInBounds t a) lr.tmps).size=nt
     rw[Ee,IZ _ [] []]
     exact g5
   have hE':=hE.same
   obtain⟨m,inf,w',h1,h2,⟨M',ι',h3,h4,h5⟩,h6⟩:=hn (some r) nt dep _ _ st hst (by
    intro i hi
    simp only[List.mem_cons,List.not_mem_nil,or_false]at hi
    rcases hi with rfl | rfl | rfl
    ·rw[←hE'];exact hok1
    ·rfl
    ·rw[←hE'];exact hok2) M ι _ w hO b (c :: cs) l c cs hr rfl rfl rfl
   rw[h1]at h
   have hst':Comes E.P (lone (b.atR { tmps:=(lr.params.zip us.toArray).foldl (fun tmps (t,a)=>tmps.setIfInBounds t a) lr.tmps,defers:=[]} [.code assign,.beginRound,.code body]) (c :: cs) w) (lone (c.finish (.bool (m == 0))) cs w') (.returned (.bool (m == 0))):=h6
   have hyH:y = .v (.bool (m == 0))∧H'=st.hp:=by
    rcases m with _ | _ | m
    ·simp only[Option.some.injEq,Prod.mk.injEq]at h;exact⟨h.1.symm,h.2.symm⟩
    ·exact absurd rfl h2
    ·simp only[Option.some.injEq,Prod.mk.injEq]at h;exact⟨h.1.symm,h.2.symm⟩
   obtain⟨rfl,rfl⟩:=hyH
   exact⟨.returned (.bool (m == 0)),w',⟨_,rfl,M',ι',.v rfl,h3,h4,h5⟩,comesIn_wide.2 hst'⟩
  ·cases h
 ·cases h
theorem tq{E:Env}{ok:Array Oper→Bool}(hE:E.Ok ok){n dep:Nat}(hn:IC E ok n){t:sn}{args:List AV}{H H':ab}{y:AV}(h:eH E (ct E n) dep t args H=some (y,H')):nc E.P t args H y H':=by
 unfold eH at h
 cases t with
 | fn f =>
  simp only at h
  cases hs:E.thrSpec f args H with
  | some z=>rw[hs]at h;cases h;exact hE.thrs f args H y H' hs
  | none =>
   rw[hs]at h
   obtain⟨_,h⟩:=Option.ite_none_right_eq_some.1 h
   exact E0 hE hn h
 | yld r=>exact I6 hE hn h
theorem zL{E:Env}{ok:Array Oper→Bool}(hE:E.Ok ok) : ∀n,IC E ok n:=by
 intro n
 induction n with
 | zero=>intro rd nt dep items st st' h;simp[ct]at h
 | succ n ih =>
  intro rd nt dep items st st' h hi M ι a w hO b cs
  have go : ∀(items':List Item)(h':ct E n rd nt dep items' st=some st'),(∀i∈items',k5 ok i=true)→Steps E.P (lone (b.atR a items) cs w) (lone (b.atR a items') cs w) →
   Bh E.P rd M ι st a w nt st' b cs (lone (b.atR a items) cs w):=by
   intro items' h' hi' hs
   exact Bh.of_steps (ds:=[]) (fun _ _=>hs) hO.sim pA.refl rfl pj (ih rd nt dep items' st st' h' hi' M ι a w hO b cs)
  have leave : ∀(j:Nat)(jump:Option Code),j≠1→(jump.isNone=(j == 0))→(∀lr:Loop,ye j { lr with state:=if jump.isNone then .ready else .done,pending:=jump})→r8 rd st j=some st'→rd≠none →
   (∀l c cs' v w',b.roundOf=some l→b.kind = .normal→cs=c :: cs'→(Instr.endRound l jump).run E.P w = .ok v w'→Steps E.P (lone (b.atR a items) cs w) (lone (c.finish v) cs' w'))→Bh E.P rd M ι st a w nt st' b cs (lone (b.atR a items) cs w):=by
   intro j jump hj hjn hst h hrd hs
   cases rd with
   | none=>exact absurd rfl hrd
   | some r =>
    unfold r8 at h
    simp only at h
    split at h
    ·rename_i inf hlp
     cases h
     intro l c cs' hr hb hk hcs
     obtain⟨_,_,_,_,_,lr,_,g1,_,_,_,_,_,_,g8,_⟩:=wo hO.sim hO.dom hr hlp
     obtain⟨k1,k2,k3⟩:=g8 j { lr with state:=if jump.isNone then .ready else .done,pending:=jump} ⟨rfl,rfl,rfl,rfl⟩ (hst lr)
     refine⟨j,inf,_,?_,hj,⟨M,ι,k1,k2,k3⟩,?_⟩
     ·simp[tE,ab.get_put,iC]
     ·rw[←hjn]
      exact hs l.b c cs' _ _ hb hk hcs (run_endRound jump g1)
    ·cases h
  unfold ct at h
  split at h
  ·cases rd with
   | none =>
    injection h with h
    subst h
    intro hb _
    exact⟨a,w,[],[],⟨M,ι,hO,pA.refl⟩,rfl,pj,.one (stepR_end hb)⟩
   | some r =>
    exact leave 0 none (by omega) rfl (fun lr=>⟨rfl,rfl⟩) h (by simp) fun l c cs' v w' hb hk hcs hr=>by subst hcs;exact .one (stepR_round_end hb hk hr)
  ·rename_i k
   have hk : ∀i∈k,k5 ok i=true:=fun i h=>hi i (List.mem_cons_of_mem _ h)
   cases rd with
   | none=>cases h
   | some r =>
    simp only at h
    split at h
    ·rename_i inf hlp
     intro l c cs' hr hb hkd hcs
     obtain⟨_,_,_,_,_,lr,_,g1,_,_,_,_,_,g7,g8,_⟩:=wo hO.sim hO.dom hr hlp
     obtain⟨k1,k2,k3⟩:=g8 1 { lr with state := .busy} ⟨rfl,rfl,rfl,rfl⟩ rfl
     have hs:Steps E.P (lone (b.atR a (.beginRound :: k)) cs w) (lone (b.atR a k) cs (bW w l.b (.loop { lr with state := .busy}))) := .one (stepR_beginRound hb (run_beginRound g1 g7.1))
     exact Bh.of_steps (rd:=some r) (ds:=[]) (fun _ _=>hs) k1 k2 rfl pj (ih (some r) nt dep k _ st' h hk M ι a _ ⟨k1,k3,hO.tr,hO.nt⟩ b cs) l c cs' hr hb hkd hcs
    ·cases h
  ·rename_i c k
   have hc:codeOk ok c=true:=hi _ (List.mem_cons_self ..)
   have hk : ∀i∈k,k5 ok i=true:=fun i h=>hi i (List.mem_cons_of_mem _ h)
   have two : ∀ {x y:Item},k5 ok x=true→k5 ok y=true →∀i∈x :: y :: k,k5 ok i=true:=by
    intro x y hx hy i hi'
    rcases List.mem_cons.1 hi' with rfl | hi'
    ·exact hx
    ·rcases List.mem_cons.1 hi' with rfl | hi'
     ·exact hy
     ·exact hk i hi'
   have one : ∀ {x:Item},k5 ok x=true →∀i∈x :: k,k5 ok i=true:=by
    intro x hx i hi'
    rcases List.mem_cons.1 hi' with rfl | hi'
    ·exact hx
    ·exact hk i hi'
   split at h
   ·exact go k h hk (.one stepR_skip)
   ·exact go k h hk (.one stepR_label)
   ·cases rd with
    | none =>
     simp only[r8,if_true]at h
     injection h with h
     subst h
     intro hb _
     exact⟨a,w,_,[],⟨M,ι,hO,pA.refl⟩,rfl,pj,.one (stepR_ret hb)⟩
    | some r=>exact leave 2 (some .ret) (by omega) rfl (fun lr=>⟨rfl,rfl⟩) h (by simp) fun l c cs' v w' hb hk hcs hr=>by subst hcs;exact .one (stepR_round_ret hb hk hr)
   ·rename_i x y
    simp only[codeOk,Bool.and_eq_true]at hc
    exact go _ h (two hc.1 hc.2) (.one stepR_seq)
   ·rename_i cnd x y
    simp only[codeOk,Bool.and_eq_true]at hc
    split at h
    ·rename_i hb
     simp only[Option.bind_eq_some_iff]at hb
     obtain⟨cv,h1,h2⟩:=hb
     exact go _ h (one hc.1) (.one (stepR_cond (wA (bn hO.tr h1) h2)))
    ·rename_i hb
     simp only[Option.bind_eq_some_iff]at hb
     obtain⟨cv,h1,h2⟩:=hb
     exact go _ h (one hc.2) (.one (stepR_cond (wA (bn hO.tr h1) h2)))
    ·cases h
   ·exact go _ h (two (by simpa [codeOk,k5] using hc) rfl) (.one stepR_block)
   ·exact go _ h (two (by simpa [codeOk,k5] using hc) rfl) (.one (step_lone_go (by simp[stepG,stepG.exec,Frame.atR])))
   ·exact go _ h (two (by simpa [codeOk,k5] using hc) (by simpa [codeOk,k5] using hc)) (.one stepR_loop)
   ·rename_i id
    split at h
    ·rename_i k' hk'
     exact go _ h (EV hk' hk) (.one (stepR_exit hk'))
    ·rename_i hk'
     cases rd with
     | none=>simp at h
     | some r=>exact leave (id+3) (some (.exit id)) (by omega) (by simp) (fun lr=>⟨rfl,rfl⟩) (by simpa using h) (by simp) fun l c cs' v w' hb hkd hcs hr=>by subst hcs;exact .one (stepR_round_exit hb hkd hk' hr)
   ·rename_i id ops draw
    split at h
    ·rename_i st1 hst1
     have hap:draw=true→o6 E ops st1=true:=by
      intro hd
      cases hb:o6 E ops st1 with
      | true=>rfl
      | false=>rw[hd,hb]at h;simp at h
     replace h:ct E n rd nt dep k st1=some st':=by
      split at h
      ·cases h
      ·exact h
     have hpc : ∀f xs y,dv E (ct E n) f xs=some y→iL E.P f xs y:=fun f xs y h=>ri hE ih h
     have htc : ∀f xs H y H',eH E (ct E n) dep f xs H=some (y,H')→nc E.P f xs H y H':=fun f xs H y H' h=>tq hE ih h
     have hreg : ∃a1 w1,iY M ι st a w nt st1 a1 w1∧(b.kind = .normal→Steps E.P (lone (b.atR a (.code (.region id ops draw) :: k)) cs w) (lone (b.atR a1 k) cs w1)):=by
      cases draw with
      | false=>exact yv hpc htc hE.overs b k cs hst1 hO
      | true =>
       have hwp:(Code.region id ops true).wpIn (FW b.roundOf) 0 E.P (fun e a' w'=>e = .normal∧iY M ι st a w nt st1 a' w') a w :=
        hE.draws ops (by simpa [codeOk] using hc) hpc htc nt dep id st st1 M ι a w b.roundOf _ hst1 (hap rfl) hO fun a' w' hst=>⟨rfl,hst⟩
       obtain⟨a1,w1,h1,h2⟩:=GB b hwp k cs
       exact⟨a1,w1,h1,fun _=>h2⟩
     obtain⟨a1,w1,⟨⟨M1,ι1,hO1,hF1⟩,hd1⟩,hs⟩:=hreg
     exact Bh.of_steps (ds:=[]) (fun _=>hs) hO1.sim hF1 hd1 pj (ih rd nt dep k st1 st' h hk M1 ι1 a1 w1 hO1 b cs)
    ·cases h
   ·rename_i g ps assign body
    simp only[codeOk,Bool.and_eq_true]at hc
    split at h
    ·rename_i gi first captured hg
     split at h
     ·rename_i x H' hcall
      obtain⟨hS1,hF1,hD1,hmk⟩:=Oj (d:=dep) (ps:=ps) (assign:=assign) (body:=body) (fn:=b.fn) hO.sim hO.dom hO.tr hO.nt rfl
      obtain⟨hfn,hthr⟩:=tq hE ih hcall
      obtain⟨a',b',hfv,hva,hvb⟩:=(bn hO.tr hg).Q6
      have hmv:=fun {xs us} (h:jC M ι xs us)=>h.mono (fun _ _ _ h=>h) hF1.map
      have hyl:VR M (gp ι ⟨dep,nt,st.hp.gen dep nt,0⟩ ⟨w.heap.size+1,0,0⟩) (.yld ⟨dep,nt,st.hp.gen dep nt,0⟩) (.func (.yield (w.heap.size+1)) #[] #[]) := .yld (l:=⟨w.heap.size+1,0,0⟩) (by simp[gp]) rfl
      have hall:=((hmv hva).append (jC.cons hyl jC.nil)).append (hmv hvb)
      have hcalls:=hthr M _ _ _ hS1 hD1 hall
      rw[show(a'.toList++[Value.func (.yield (w.heap.size+1)) #[] #[]]++b'.toList).toArray=a' ++ #[Value.func (.yield (w.heap.size+1)) #[] #[]]++b' by apply Array.ext';simp]at hcalls
      intro hb
      let c1:Frame:=b.atR { a with defers:=[{ target := .collected w.heap.size,args := #[]}]++a.defers} (.inRangeFunc (w.heap.size+1) :: k)
      have henter:=stepR_rangeFunc (P:=E.P) (b:=b) (a:=a) (k:=k) (cs:=cs) (w:=w) (g:=g) (ps:=ps) (assign:=assign) (body:=body) (l:=w.heap.size+1) (mark:=[{ target := .collected w.heap.size,args := #[]}])
       (d := { target := .fn (.func gi) b',args:=a' ++ #[Value.func (.yield (w.heap.size+1)) #[] #[]]}) (f:=gi) (args:=a' ++ #[Value.func (.yield (w.heap.size+1)) #[] #[]]++b')
       (by rw[hb];exact run_enterLoop_outer b.fn a.tmps ps assign body) (by have hev : ∀x,a.eval (.const x)=x:=fun _=>rfl;simp[resolve,rangeCall,hfv,Deferred.ofValue,hev];rfl) (by simp[invoke,Ay hfn];rfl)
      obtain⟨e,w3,fr,⟨v,he,M3,ι3,hv3,hS3,hF3,hD3⟩,hcomes,hfr,hleave⟩:=hcalls (c1 :: cs)
      subst he
      have hs1:Steps E.P (lone (b.atR a (.code (.rangeFunc g ps assign body) :: k)) cs w) (lone (c1.finish v) cs w3):=Steps.trans (.one henter) (Steps.trans hcomes (.one (step_leave_returned hleave)))
      have hfin:c1.finish v=b.atR { a with defers:=[{ target := .collected w.heap.size,args := #[]}]++a.defers} (.endRangeFunc (w.heap.size+1) :: k):=finish_atR_inRangeFunc _ v
      rw[hfin]at hs1
      have hF13:=hF1.trans hF3
      have hr3:ι3 ⟨dep,nt,st.hp.gen dep nt,0⟩=some ⟨w.heap.size+1,0,0⟩:=hF3.map _ _ (by simp[gp])
      have hmk3:w3.heap[w.heap.size]?=some (.deferred (some [])):=by
       rw[hF3.chg _ (Array.getElem?_eq_some_iff.1 hmk).1 (Cd hS1 hmk)]
       exact hmk
      have behind : ∀ {m:Nat} {inf:AV},tE H' ⟨dep,nt,st.hp.gen dep nt,0⟩=some (m,inf)→m≠1 →∃lr:Loop,∃w4,ye m lr ∧
       Steps E.P (lone (b.atR a (.code (.rangeFunc g ps assign body) :: k)) cs w) (lone (b.atR { a with defers:=[{ target := .collected w.heap.size,args := #[]}]++a.defers} ((lr.pending.map Item.code).toList++k)) cs w4) ∧
       qU M3 ι3 ⟨st.tm,H'.put ⟨dep,nt,st.hp.gen dep nt,0⟩ none⟩ nt { a with defers:=[{ target := .collected w.heap.size,args := #[]}]++a.defers} w4∧pA M ι st.hp.get w M3 ι3 (H'.put ⟨dep,nt,st.hp.gen dep nt,0⟩ none).get w4 ∧
       ox w w4 [w.heap.size]:=by
       intro m inf hlp hm
       obtain⟨_,_,_,_,_,lr,_,g1,_,_,_,_,_,g7,_,g9⟩:=wo hS3 hD3 hr3 hlp
       obtain⟨k1,k2,k3⟩:=g9 { lr with state := .exhausted}
       have hnb:lr.state ≠ .busy:=by
        match m,hm with
        | 0,_=>rw[g7.1];simp
        | 1,hm=>exact absurd rfl hm
        | 2,_=>rw[g7.1];simp
        | m+3,_=>rw[g7.1];simp
       refine⟨lr,_,g7,Steps.trans hs1 (.one (stepR_endRangeFunc (run_endLoop g1 hnb))),⟨k1,k3,⟨fun t=>(hO.tr.mono hF13.mem hF13.map).at_ t⟩,hO.nt⟩,hF13.trans k2,⟨by simp,fun D hD=>?_⟩⟩
       simp only[List.mem_singleton]at hD
       subst hD
       refine⟨Nat.le_refl _,?_⟩
       show(bW w3 (w.heap.size+1) _).heap[w.heap.size]?=_
       rw[ei (by omega)]
       exact hmk3
      split at h
      ·rename_i hlp
       obtain⟨lr,w4,hst,hs,hO4,hF4,hM4⟩:=behind hlp (by omega)
       rw[hst.2]at hs
       exact Bh.of_steps (rd:=none) (ds:=[w.heap.size]) (fun _ _=>hs) hO4.sim hF4 rfl hM4 (ih none nt dep k _ st' h hk M3 ι3 _ w4 hO4 b cs) hb
      ·rename_i hlp
       obtain⟨lr,w4,hst,hs,hO4,hF4,hM4⟩:=behind hlp (by omega)
       rw[hst.2]at hs
       cases h
       intro _
       exact⟨_,w4,_,[w.heap.size],⟨M3,ι3,hO4,hF4⟩,rfl,hM4,Steps.trans hs (.one (stepR_ret hb))⟩
      ·rename_i id hlp
       obtain⟨lr,w4,hst,hs,hO4,hF4,hM4⟩:=behind hlp (by omega)
       rw[hst.2]at hs
       split at h
       ·rename_i k' hk'
        exact Bh.of_steps (rd:=none) (ds:=[w.heap.size]) (fun _ _=>Steps.trans hs (.one (stepR_exit hk'))) hO4.sim hF4 rfl hM4 (ih none nt dep k' _ st' h (EV hk' hk) M3 ι3 _ w4 hO4 b cs) hb
       ·cases h
      ·cases h
     ·cases h
    ·cases h
   ·cases h
  ·rename_i c k
   have hc:codeOk ok c=true:=hi _ (List.mem_cons_self ..)
   have hk : ∀i∈k,k5 ok i=true:=fun i h=>hi i (List.mem_cons_of_mem _ h)
   refine go _ h ?_ (.one stepR_inLoop)
   intro i hi'
   rcases List.mem_cons.1 hi' with rfl | hi'
   ·exact hc
   ·rcases List.mem_cons.1 hi' with rfl | hi'
    ·exact hc
    ·exact hk i hi'
  ·rename_i id k
   exact go k h (fun i h=>hi i (List.mem_cons_of_mem _ h)) (.one stepR_inBlock)
  ·rename_i id k
   exact go k h (fun i h=>hi i (List.mem_cons_of_mem _ h)) (.one (step_lone_go (by simp[stepG,stepG.exec,Frame.atR])))
  ·cases h
theorem Ri{E:Env}{ok:Array Oper→Bool}(hE:E.Ok ok){n:Nat}{f:FuncId}{args:List AV}{y:AV}(h:dv E (ct E n) f args=some y):iL E.P f args y:=ri hE (zL hE n) h
end Go.Ab
