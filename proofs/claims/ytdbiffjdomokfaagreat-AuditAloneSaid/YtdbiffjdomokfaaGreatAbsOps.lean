/-
  What the abstract machine's quiet operations give is what the model's give: the first part. No statement of a seat is proved here.
  What the abstract machine's quiet operations give is what the model's give: the second part. No statement of a seat is proved here.
  What the abstract machine's quiet operations give is what the model's give: the third part. No statement of a seat is proved here.
  What the abstract machine's quiet operations give is what the model's give: new rows. No statement of a seat is proved here.
  What the abstract machine's quiet operations give is what the model's give: appends, and what is left. No statement of a seat is proved here.
  What the abstract machine's quiet operations give is what the model's give: what is left but calls. No statement of a seat is proved here.
  What the abstract machine's operations give is what the model's give: appends, stores, copies. No statement of a seat is proved here.
  What the abstract machine's writing operations give is what the model's give. No statement of a seat is proved here.
  What the abstract machine's writing operations give is what the model's give: the second part. No statement of a seat is proved here.
-/
import Derived.Lib.Overlaps
import Derived.Test.YtdbiffjdomokfaaGreatAbsCore
import Derived.Lib.SliceRun
import Derived.WalkSpells
set_option linter.unusedVariables false
set_option linter.unusedSimpArgs false
namespace Go.Ab
def oV(g:dk)(r:Ref)(bs:List bN):dk:=fun q=>if q.d=r.d∧q.t=r.t∧q.g=r.g∧q.k<bs.length then bs[q.k]? else g q
theorem kR(g:dk)(r:Ref):oV g r []=g:=by funext q;simp[oV]
theorem mG(g:dk)(r:Ref)(hr:r.k=0)(b:bN):oV g r [b]=iz g r b:=by
 funext q
 unfold oV iz
 by_cases h:q=r
 ·subst h;simp[hr]
 ·rw[if_neg h,if_neg]
  intro h'
  apply h
  cases q;cases r
  simp_all
structure TR (M:Mem) (ι:Map) (tm:List AV) (a:Act):Prop where
 at_ : ∀t,VR M ι (cU tm t) (a.tmps.getD t undef)
theorem TR.mono{M ι tm a M' ι'}(h:TR M ι tm a)(hM : ∀b o x,M b o=some x→M' b o=some x)(hι : ∀r l,ι r=some l→ι' r=some l):TR M' ι' tm a :=
 ⟨fun t=>(h.at_ t).mono hM ι' hι⟩
theorem bn{M ι tm a}(h:TR M ι tm a){x:Operand}{y:AV}(hx:aZ tm x=some y):VR M ι y (a.eval x):=by
 cases x with
 | tmp t=>simp[aZ]at hx;subst hx;exact h.at_ t
 | const v=>simp only[aZ]at hx;exact gT hx
 | global g=>simp[aZ]at hx
 | func f=>simp[aZ]at hx;subst hx;exact .fn rfl rfl (fun i c u hc=>by simp at hc) (fun i c u hc=>by simp at hc)
theorem kV{M ι tm a}(h:TR M ι tm a){xs:List Operand}{ys:List AV}(hx:xs.mapM (aZ tm)=some ys):jC M ι ys (xs.map a.eval) :=
 ⟨by simpa using gY hx,fun i y u hy hu=>by
  obtain⟨x,hx',hf⟩:=nM hx i y hy
  simp only[List.getElem?_map,hx',Option.map_some,Option.some.injEq]at hu
  subst hu
  exact bn h hf⟩
def gI(M:Mem)(ι:Map)(g:dk)(w:World)(r:Ref)(x:AV)(bs:List bN)(u:Value)(w':World):Prop :=
 ∃M' ι',VR M' ι' x u∧fh M' ι' (oV g r bs) w'∧pA M ι g w M' ι' (oV g r bs) w' ∧∀q,ι q=none→(∀k,k<bs.length→q ≠ { r with k:=k})→ι' q=none
theorem gI.same{M ι g w r x u}(hS:fh M ι g w)(h:VR M ι x u):gI M ι g w r x [] u w :=
 ⟨M,ι,h,by rw[kR];exact hS,by rw[kR];exact pA.refl,fun q hq _=>hq⟩
theorem fh.drew{M ι g w w'}(hS:fh M ι g w)(hh:w'.heap=w.heap):fh M ι g w' :=
 ⟨fun b o x h=>by rw[World.cell?_of_block (w:=w) (by rw[hh])];exact hS.mem b o x h,fun r k h=>by
  obtain⟨l,hl,hb⟩:=hS.live r k h
  exact⟨l,hl,hb.cV (fun _ _ _ h=>h) (fun _ _ h=>h) (by rw[hh]) hb.frozen⟩,hS.inj⟩
def FW(ro:Option Nat):Fence := { Fence.wide with round:=ro}
def eC(P:Program)(o:Oper)(a:Act)(w:World)(S:Value→World→Prop):Prop :=
 ∀(ro:Option Nat)(K:Act→World→Prop)(Q:Exit→Act→World→Prop),(∀u w',S u w'→K (a.put o.dst u) w')→o.wpIn (FW ro) 0 P a w K Q
theorem wb{P:Program}{o:Oper}{ρ:Operand→Value}{w w':World}{x:Next}(ro:Option Nat)(h:(execOp ρ o).run P w = .ok x w')(hx : ∀d,x ≠ .defer d):(Oper.semAt ro ρ o).run P w = .ok x w':=by
 by_cases hd : ∃c,o.op = .defer c
 ·exfalso
  obtain⟨c,hc⟩:=hd
  simp only[execOp,hc]at h
  rw[Sem.run_bind]at h
  cases hr:(resolve ρ c o.type).run P w with
  | ok d w1=>rw[hr]at h;simp only[Result.andThen_ok,Sem.run_pure,Result.ok.injEq]at h;exact hx _ h.1.symm
  | halt e w1=>rw[hr]at h;cases h
 ·rw[Oper.semAt_eq ro ρ o fun c hc=>hd ⟨c,hc⟩]
  exact h
theorem eC.of_run{P o a w S u w'}(hr:(execOp a.eval o).run P w = .ok (.value u) w')(h:S u w'):eC P o a w S:=by
 intro ro K Q hK
 refine⟨fun _ _=>trivial,?_⟩
 rw[wb (x := .value u) (FW ro).round hr (by intro d e;cases e)]
 exact hK _ _ h
theorem eC.Bn{P o a w S w'}(hr:(execOp a.eval o).run P w = .ok .skip w')(h:S undef w'):eC P o a w S:=by
 intro ro K Q hK
 refine⟨fun _ _=>trivial,?_⟩
 rw[wb (x := .skip) (FW ro).round hr (by intro d e;cases e)]
 exact hK _ _ h
theorem eC.Cb{P o a w S f args w0}(hr:(execOp a.eval o).run P w = .ok (.enter f args) w0)(h:Calls P f args w0 fun e w' =>∃u,e = .returned u∧S u w'):eC P o a w S:=by
 intro ro K Q hK
 refine⟨fun _ _=>trivial,?_⟩
 rw[wb (x := .enter f args) (FW ro).round hr (by intro d e;cases e)]
 refine⟨fun h=>absurd h (by simp[FW,Fence.wide]),?_⟩
 have h2:CallsIn Fence.wide 0 P f args w0 fun e w' =>∃u,e = .returned u∧S u w':=callsIn_wide.2 h
 have h3:CallsIn (FW ro) (0 - 1) P f args w0 fun e w' =>∃u,e = .returned u∧S u w':=h2
 refine h3.mono fun e w' ⟨u,he,hS⟩=>?_
 subst he
 exact hK _ _ hS
theorem eC.N1{P o a w S l f tmps assign body w0}(hr:(execOp a.eval o).run P w = .ok (.round l f tmps assign body) w0)(h:RoundIn (FW none) 0 P l f tmps assign body w0 fun e w' =>∃u,e = .returned u∧S u w'):eC P o a w S:=by
 intro ro K Q hK
 refine⟨fun _ _=>trivial,?_⟩
 rw[wb (x := .round l f tmps assign body) (FW ro).round hr (by intro d e;cases e)]
 refine⟨fun h=>absurd h (by simp[FW,Fence.wide]),?_⟩
 have h3:RoundIn (FW ro) (0 - 1) P l f tmps assign body w0 fun e w' =>∃u,e = .returned u∧S u w':=h
 refine h3.mono fun e w' ⟨u,he,hS⟩=>?_
 subst he
 exact hK _ _ hS
theorem put_defers(a:Act)(d:Option Tmp)(u:Value):(a.put d u).defers=a.defers:=by cases d<;>rfl
theorem Ev{P:Program}{s:Sem Value}{w w':World}{u:Value}(h:s.run P w = .ok u w'):(do pure (Next.value (←s)):Sem Next).run P w = .ok (.value u) w':=by
 simp[h]
section
variable{P:Program}{M:Mem}{ι:Map}{g:dk}{w:World}{r:Ref}
theorem wA{x:AV}{u:Value}{b:Bool}(h:VR M ι x u)(hb:Am x=some b):u = .bool b:=by
 cases h<;>simp[Am]at hb
 split at hb<;>simp_all
theorem sN{x:AV}{u:Value}{n:Int}(h:VR M ι x u)(hb:Ab.intOf x=some n) : ∃k,u = .int k n:=by
 cases h<;>simp[Ab.intOf]at hb
 split at hb<;>simp_all
theorem Fx(hS:fh M ι g w)(hr:r.k=0)(hq:ι r=none){e:TypeId}{n:Nat}{x:AV}{u:Value}(hx:VR M ι x u)(hn:x.cells.length=n)(h1:x.cells.all AV.one=true)(hz:0<n) :
 ∃w',(Instr.box e u).run P w = .ok (.pointer (some ⟨w.heap.size,0,none⟩)) w'∧gI M ι g w r (.ptr r 0 0) [⟨n,[x],false,false⟩] (.pointer (some ⟨w.heap.size,0,none⟩)) w':=by
 have hcs:=hx.cells
 have hsz:u.cells.size=n:=by have:=hcs.1;simp at this;omega
 obtain⟨h2,h3⟩:=hS.alloc (q:=r) hq (w':=w.alloc (.cells u.cells e)) (arr:=u.cells) (T:=e) (fz:=(0,0)) ⟨rfl,rfl,rfl,rfl⟩ ⟨n,[x],false,false⟩ hz 1 (by simpa using hsz) (zw.zero _ _) (by simp) (by simp[hn])
  (by
   intro i j e' y he hy
   cases i with
   | succ i=>simp at he
   | zero =>
    simp at he
    subst he
    have hj:j<u.cells.size:=by have:=(List.getElem?_eq_some_iff.1 hy).1;omega
    refine⟨u.cells[j],by simp,?_,?_⟩
    ·have hv:=hcs.2 j y u.cells[j] hy (by simp[hj])
     exact hv.one (by simp only[List.all_eq_true]at h1;exact h1 y (List.mem_of_getElem? hy))
    ·simpa [bN.map] using hcs.2 j y u.cells[j] hy (by simp[hj]))
 refine⟨w.alloc (.cells u.cells e),by simp[Instr.box,newVar,newRow],M,_,?_,by rw[mG _ _ hr];exact h2,by rw[mG _ _ hr];exact h3,?_⟩
 ·have:=VR.ptr (M:=M) (ι:=gp ι r ⟨w.heap.size,n,1⟩) (r:=r) (i:=0) (j:=0) (l:=⟨w.heap.size,n,1⟩) (by simp[gp]) hz
  simpa using this
 ·intro q hq' hk
  have:q≠r:=by intro e;exact hk 0 (by simp) (by rw[e];cases r;simp_all)
  simpa [gp,this] using hq'
theorem LG(hS:fh M ι g w)(hr:r.k=0)(hq:ι r=none){e:TypeId}{x:AV}{bs:List bN}(h:bY P r e=some (x,bs)) :
 ∃u w',(Instr.alloc e true (.tuple #[])).run P w = .ok u w'∧gI M ι g w r x bs u w':=by
 unfold bY at h
 split at h
 ·rename_i z n hz hn
  split at h
  ·rename_i hc
   cases h
   obtain⟨u,hu,hv⟩:=sF hz w
   obtain⟨w',h1,h2⟩:=Fx (P:=P) (e:=e) hS hr hq (gT hv) hc.1 hc.2.1 hc.2.2
   refine⟨_,w',?_,h2⟩
   have:(Instr.alloc e true (.tuple #[])).run P w=(Instr.box e u).run P w:=by simp[Instr.alloc,hu,Instr.box]
   rw[this];exact h1
  ·cases h
 ·cases h
theorem Qu(hS:fh M ι g w)(hr:r.k=0)(hq:ι r=none){e:TypeId}{y x:AV}{u0:Value}(hy:VR M ι y u0){bs:List bN}(h:cD P r e (some y)=some (x,bs)) :
 ∃u w',(Instr.box e u0).run P w = .ok u w'∧gI M ι g w r x bs u w':=by
 unfold cD at h
 split at h
 ·rename_i y' n he hn
  cases he
  split at h
  ·rename_i hc
   cases h
   obtain⟨w',h1,h2⟩:=Fx (P:=P) (e:=e) hS hr hq hy hc.1 hc.2.1 hc.2.2
   exact⟨_,w',h1,h2⟩
  ·cases h
 ·cases h
theorem NH(hS:fh M ι g w){t:TypeId}{y x:AV}{u0:Value}(hy:VR M ι y u0){bs:List bN}(h:aj P g t (some y)=some (x,bs)) :
 bs=[] ∧∃u,(Instr.loadAt t u0).run P w = .ok u w∧VR M ι x u:=by
 unfold aj at h
 split at h
 ·rename_i r' i j ag n he hg hn
  cases he
  split at h
  ·rename_i b hb
   simp only[cF,Option.map_eq_some_iff]at h
   obtain⟨y',hy',he⟩:=h
   cases he
   exact⟨rfl,KA hg hn hS hy hb hy'⟩
  ·cases h
 ·rename_i esz es i j ag n he hg hn
  cases he
  simp only[cF,Option.map_eq_some_iff]at h
  obtain⟨y',hy',he⟩:=h
  cases he
  exact⟨rfl,Ow hg hn hS.mem hy hy'⟩
 ·cases h
theorem Kq{t:TypeId}{cs:List AV}{vs:Array Value}{off:Nat}{x:AV}(hv:jC M ι cs vs.toList)(h:u6 P t cs off=some x) : ∃u,(part t vs off).run P w = .ok u w∧VR M ι x u:=by
 unfold u6 at h
 split at h
 ·rename_i n hg hn
  split at h
  ·rename_i hle
   cases h
   refine⟨.agg (vs.extract off (off+n)),by simp[part,we hg,cO hn],VR.oe.2 ?_⟩
   have:=(hv.drop off).take n
   have e:(vs.extract off (off+n)).toList=(vs.toList.drop off).take n:=by
    rw[Array.toList_extract,List.extract_eq_take_drop,Nat.add_sub_cancel_left]
   rw[e]
   exact this
  ·cases h
 ·rename_i hg
  have hlt:=(List.getElem?_eq_some_iff.1 h).1
  have hlt':off<vs.size:=by have:=hv.1;simp at this;omega
  refine⟨vs[off],by simp[part,we hg,Array.getElem?_eq_getElem hlt'],hv.2 off x _ h (by simp[hlt'])⟩
 ·cases h
theorem VR.KY{cs:List AV}{u:Value}(h:VR M ι (.agg cs) u) : ∃vs,u = .agg vs∧jC M ι cs vs.toList:=by
 cases h with | agg hl hh=>exact⟨_,rfl,VR.oe.1 (.agg hl hh)⟩
theorem Ej{t:TypeId}{f off:Nat}{ft:TypeId}(h:me P t f=some (off,ft)) : ∃fs fd,P.underlying t=some (.struct fs)∧fs[f]?=some fd∧fd.offset=off∧fd.type=ft:=by
 unfold me at h
 split at h
 ·rename_i fs hfs
  simp only[Option.map_eq_some_iff]at h
  obtain⟨fd,hfd,he⟩:=h
  cases he
  exact⟨fs,fd,hfs,hfd,rfl,rfl⟩
 ·cases h
theorem LD{t:TypeId}{f:Nat}{y x:AV}{u0:Value}(hy:VR M ι y u0){bs:List bN}(h:lC P t (some y) f=some (x,bs)) :
 bs=[] ∧∃u,(Instr.field t u0 f).run P w = .ok u w∧VR M ι x u:=by
 unfold lC at h
 split at h
 ·rename_i off ft cs hf he
  cases he
  simp only[cF,Option.map_eq_some_iff]at h
  obtain⟨y',hy',he⟩:=h
  cases he
  obtain⟨vs,rfl,hvs⟩:=hy.KY
  obtain⟨fs,fd,h1,h2,rfl,rfl⟩:=Ej hf
  obtain⟨u,hu,hv⟩:=Kq (w:=w) hvs hy'
  exact⟨rfl,u,by simp[Instr.field,bH h1,h2,asAgg,hu],hv⟩
 ·cases h
theorem CJ{t:TypeId}{f off s:Nat}(h:aL P t f=some (off,s)) : ∃fs fd,P.underlying t=some (.struct fs)∧fs[f]?=some fd∧fd.offset=off∧aU P fd.type=some s:=by
 unfold aL at h
 split at h
 ·rename_i off' ft hf
  simp only[Option.map_eq_some_iff]at h
  obtain⟨n,hn,he⟩:=h
  cases he
  obtain⟨fs,fd,h1,h2,h3,h4⟩:=Ej hf
  exact⟨fs,fd,h1,h2,h3,h4 ▸ hn⟩
 ·cases h
theorem DF{t:TypeId}{f:Nat}{y x:AV}{u0:Value}(hy:VR M ι y u0){bs:List bN}(h:aa P t (some y) f=some (x,bs)) :
 bs=[] ∧∃u,(Instr.fieldAt t u0 f).run P w = .ok u w∧VR M ι x u:=by
 unfold aa at h
 split at h
 ·rename_i off s hf
  obtain⟨fs,fd,h1,h2,rfl,h4⟩:=CJ hf
  split at h
  ·rename_i hs
   have go : ∀(b o:Nat),u0 = .pointer (some ⟨b,o,none⟩)→(Instr.fieldAt t u0 f).run P w = .ok (.pointer (some ⟨b,o+fd.offset,none⟩)) w:=by
    intro b o e
    subst e
    simp[Instr.fieldAt,bH h1,h2,Instr.sureAddr,fieldPlace,cO h4,show s≠0 by omega,fW]
   split at h
   ·rename_i r' i j he
    cases he
    cases h
    cases hy with | ptr hl hzl =>
    rename_i l
    exact⟨rfl,_,go _ _ rfl,by rw[Nat.add_assoc];exact .ptr hl hzl⟩
   ·rename_i n es i j he
    cases he
    cases h
    cases hy with | iptr cell hm he hh =>
    rename_i b o
    exact⟨rfl,_,go _ _ rfl,by rw[show o+(i * n+j)+fd.offset=o+(i * n+(j+fd.offset)) by omega];exact .iptr cell hm he hh⟩
   ·cases h
  ·cases h
 ·cases h
theorem fS{t e:TypeId}(h:dY P t=some e):P.underlying t=some (.slice e):=by
 unfold dY at h
 split at h
 ·cases h;assumption
 ·cases h
theorem Bj{t e:TypeId}{n:Nat}(h:iy P t=some (n,e)):P.underlying t=some (.array n e):=by
 unfold iy at h
 split at h
 ·cases h;assumption
 ·cases h
theorem DE(hS:fh M ι g w){t:TypeId}{y z x:AV}{u0 u1:Value}(hy:VR M ι y u0)(hz:VR M ι z u1){bs:List bN}(h:aM P g t (some y) (some z)=some (x,bs)) :
 bs=[] ∧∃u,(Instr.indexAt t u0 u1).run P w = .ok u w∧VR M ι x u:=by
 unfold aM at h
 simp only[Option.bind_some]at h
 split at h
 ·rename_i k hk
  obtain⟨ki,rfl⟩:=sN hz hk
  split at h
  ·rename_i e he
   have hu:=fS he
   split at h
   ·rename_i esz es cap s hye hs
    cases hye
    split at h
    ·rename_i hc
     obtain⟨h0,h1,rfl⟩:=hc
     cases h
     cases hy with | cw cell hsp hcc hkk hm hes hh =>
     rename_i a c
     refine⟨rfl,.pointer (some (a.add (k.toNat * s))),?_,?_⟩
     ·simp[Instr.indexAt,asIntOf,bH hu,h0,h1,cO hs]
     ·have hsp:=hsp.resolve_right (by intro e;subst e;simp at h1;omega)
      rw[jo hsp,fW]
      have:=VR.iptr (M:=M) (ι:=ι) (i:=k.toNat) (j:=0) (b:=a.block) (o:=a.off) cell hm hes hh
      simpa using this
    ·cases h
   ·rename_i r' off len cap s hye hs
    cases hye
    split at h
    ·rename_i b hb
     split at h
     ·rename_i hc
      obtain⟨h0,h1,hse⟩:=hc
      cases h
      cases hy with | cM hr hbb hsp ha hcc hn hkk hzl =>
      rename_i l a c
      obtain⟨l',hl',hbk⟩:=hS.live r' b hb
      rw[hr]at hl';cases hl'
      refine⟨rfl,.pointer (some (a.add (k.toNat * s))),?_,?_⟩
      ·simp[Instr.indexAt,asIntOf,bH hu,h0,h1,cO hs]
      ·have hoff:a.off=off * l.esz:=by
        rcases ha with h | h
        ·omega
        ·exact h
       rw[jo hsp,fW,hbb,hoff,hse,←hbk.esz,←Nat.add_mul]
       have:=VR.ptr (M:=M) (ι:=ι) (i:=off+k.toNat) (j:=0) hr hzl
       simpa using this
     ·cases h
    ·cases h
   ·cases h
  ·split at h
   ·rename_i n e ha
    have hu:=Bj ha
    have go : ∀(b o s:Nat),u0 = .pointer (some ⟨b,o,none⟩)→aU P e=some s→0≤k→k<n→(Instr.indexAt t u0 (.int ki k)).run P w = .ok (.pointer (some ⟨b,o+k.toNat * s,none⟩)) w:=by
     intro b o s e h1 h2 h3
     subst e
     simp[Instr.indexAt,asIntOf,bH hu,Instr.sureAddr,h2,h3,cO h1,fW]
    split at h
    ·rename_i r' i j s hye hs
     cases hye
     split at h
     ·rename_i hc
      cases h
      cases hy with | ptr hl hzl =>
      exact⟨rfl,_,go _ _ _ rfl hs hc.1 hc.2,by rw[Nat.add_assoc];exact .ptr hl hzl⟩
     ·cases h
    ·rename_i esz es i j s hye hs
     cases hye
     split at h
     ·rename_i hc
      cases h
      cases hy with | iptr cell hm he hh =>
      rename_i b o
      exact⟨rfl,_,go _ _ _ rfl hs hc.1 hc.2,by rw[show o+(i * esz+j)+k.toNat * s=o+(i * esz+(j+k.toNat * s)) by omega];exact .iptr cell hm he hh⟩
     ·cases h
    ·cases h
   ·cases h
 ·cases h
theorem G3{y x:AV}{u0:Value}{i:Nat}(hy:VR M ι y u0){bs:List bN}(h:aF (some y) i=some (x,bs)) :
 bs=[] ∧∃u,(Instr.extract u0 i).run P w = .ok u w∧VR M ι x u:=by
 unfold aF at h
 split at h
 ·rename_i vs he
  cases he
  simp only[cF,Option.map_eq_some_iff]at h
  obtain⟨y',hy',he⟩:=h
  cases he
  cases hy with | tup h0 hl hh =>
  rename_i us
  have hlt:i<us.size:=by have:=(List.getElem?_eq_some_iff.1 hy').1;omega
  exact⟨rfl,us[i],by simp[Instr.extract,Array.getElem?_eq_getElem hlt],hh i _ _ hy' (Array.getElem?_eq_getElem hlt)⟩
 ·cases h
theorem zN{t:TypeId}{y x:AV}{u0:Value}(hy:VR M ι y u0){bs:List bN}(h:oL P t (some y)=some (x,bs)) :
 bs=[] ∧∃u,(Instr.makeInterface t u0).run P w = .ok u w∧VR M ι x u:=by
 unfold oL at h
 split at h
 ·cases h
 ·rename_i d hne hd
  simp at h
  obtain⟨rfl,rfl⟩:=h
  refine⟨rfl,.iface t u0,?_,.ifc hy⟩
  simp only[Instr.makeInterface,Sem.run_bind,bH hd,Result.andThen_ok]
  cases d<;>first | rfl | (exact absurd hd (hne _))
 ·cases h
theorem xv{st want:TypeId}{ok:Bool}{y x:AV}{u0:Value}(hy:VR M ι y u0){bs:List bN}(h:o3 P (some y) want ok=some (x,bs)) :
 bs=[] ∧∃u,(Instr.typeAssert u0 st want ok).run P w = .ok u w∧VR M ι x u:=by
 have fails : ∀d,P.underlying want=some d→(∀ms,d ≠ .interface ms) →∀z,eG P want=some z→ok=true→(u0 = .nilIface ∨∃t v,u0 = .iface t v∧t≠want) →
  ∃u,(Instr.typeAssert u0 st want ok).run P w = .ok u w∧VR M ι (.tup [z,.v (.bool false)]) u:=by
  intro d hd hne z hz hok hu
  subst hok
  obtain⟨v,hv,hov⟩:=sF hz w
  refine⟨.tuple #[v,.bool false],?_,?_⟩
  ·simp only[Instr.typeAssert,Sem.run_bind,bH hd,Result.andThen_ok]
   rcases hu with rfl | ⟨t,x,rfl,hne'⟩
   ·cases d<;>first | (simp[hv];done) | exact absurd rfl (hne _)
   ·cases d<;>first | (simp[hv,hne'];done) | exact absurd rfl (hne _)
  ·refine .tup (by simp) rfl fun i c u hc hu=>?_
   match i with
   | 0=>simp at hc hu;subst hc;subst hu;exact gT hov
   | 1=>simp at hc hu;subst hc;subst hu;exact .v rfl
   | i+2=>simp at hc
 unfold o3 at h
 split at h
 ·cases h
 ·rename_i d t y' hne hd he
  cases he
  cases hy with | ifc hy =>
  rename_i u1
  split at h
  ·rename_i ht
   subst ht
   simp at h
   obtain⟨rfl,rfl⟩:=h
   refine⟨rfl,(if ok then .tuple #[u1,.bool true] else u1),?_,?_⟩
   ·simp only[Instr.typeAssert,Sem.run_bind,bH hd,Result.andThen_ok]
    cases d<;>first | (simp;done) | exact absurd hd (by intro h;exact hne _ h)
   ·cases ok with
    | false=>simpa using hy
    | true =>
     simp only[if_true]
     refine .tup (by simp) rfl fun i c u hc hu=>?_
     match i with
     | 0=>simp at hc hu;subst hc;subst hu;exact hy
     | 1=>simp at hc hu;subst hc;subst hu;exact .v rfl
     | i+2=>simp at hc
  ·rename_i ht
   split at h
   ·rename_i hok
    simp at h
    obtain⟨z,hz,rfl,rfl⟩:=h
    exact⟨rfl,fails d hd hne z hz hok (.inr ⟨t,u1,rfl,ht⟩)⟩
   ·cases h
 ·rename_i d hne hd he
  cases he
  split at h
  ·rename_i hok
   simp at h
   obtain⟨z,hz,rfl,rfl⟩:=h
   cases hy
   exact⟨rfl,fails d hd hne z hz hok (.inl rfl)⟩
  ·cases h
 ·cases h
end
end Go.Ab
namespace Go.Ab
section
variable{P:Program}{M:Mem}{ι:Map}{g:dk}{w:World}{r:Ref}
theorem HO(off:Nat) : ∀(us:List Value)(k:Nat)(cells:Array Value),off+k+us.length≤cells.size →
 (us.zipIdx k).foldl (fun cs (p:Value × Nat)=>cs.setIfInBounds (off+p.2) p.1) cells=cz cells (off+k) us:=by
 intro us
 induction us with
 | nil=>intro k cells h;simp[cz]
 | cons u us ih =>
  intro k cells h
  simp only[List.length_cons]at h
  rw[List.zipIdx_cons,List.foldl_cons,ih (k+1) _ (by simp;omega)]
  apply Array.ext_getElem?
  intro i
  rw[fH (by simp;omega),fH (by simp;omega)]
  by_cases h2:i=off+k
  ·subst h2
   rw[if_neg (by omega),if_pos ⟨Nat.le_refl _,by simp⟩]
   simp[show off+k<cells.size by omega]
  ·by_cases h3:off+(k+1)≤i∧i<off+(k+1)+us.length
   ·rw[if_pos h3,if_pos (by simp;omega)]
    rw[show i - (off+k)=(i - (off+(k+1)))+1 by omega]
    simp
   ·rw[if_neg h3,if_neg (by simp;omega)]
    rw[Array.getElem?_setIfInBounds_ne (by omega)]
theorem jC.patch{cs new:List AV}{us vs:List Value}{j:Nat}(h:jC M ι cs us)(h':jC M ι new vs):jC M ι (patch cs j new) (us.take j++vs++us.drop (j+vs.length)):=by
 unfold Ab.patch
 rw[←h'.1]
 exact((h.take j).append h').append (h.drop _)
theorem KN(place:Nat→Option (Nat × Nat)) : ∀(ps:List (Nat × AV)) (qs:List (Nat × Value)) (cs cs':List AV) (zc:Array Value),kE place cs ps=some cs'→jC M ι cs zc.toList →
 ps.length=qs.length→(∀(i:Nat) p q,ps[i]?=some p→qs[i]?=some q→p.1=q.1∧VR M ι p.2 q.2) →
 ∃zc',Instr.fill place zc qs=some zc'∧jC M ι cs' zc'.toList:=by
 intro ps
 induction ps with
 | nil =>
  intro qs cs cs' zc h hv hl hp
  simp[kE]at h
  subst h
  cases qs with
  | nil=>exact⟨zc,rfl,hv⟩
  | cons q qs=>simp at hl
 | cons p ps ih =>
  intro qs cs cs' zc h hv hl hp
  cases qs with
  | nil=>simp at hl
  | cons q qs =>
   obtain⟨i,v⟩:=p
   obtain⟨i',u⟩:=q
   obtain⟨h1,h2⟩:=hp 0 _ _ rfl rfl
   simp only at h1 h2
   subst h1
   simp only[kE]at h
   split at h
   ·cases h
   ·rename_i off size hpl
    split at h
    ·rename_i hc
     obtain⟨hsz,hle⟩:=hc
     have hcs:=h2.cells
     have hus:u.cells.size=size:=by have:=hcs.1;simp at this;omega
     have hzl:zc.size=cs.length:=by have:=hv.1;simp at this;omega
     have hput:=HO off u.cells.toList 0 zc (by simp;omega)
     have hfold:u.cells.zipIdx.foldl (fun cs (p:Value × Nat)=>cs.setIfInBounds (off+p.2) p.1) zc=cz zc off u.cells.toList:=by
      rw[Nat.add_zero]at hput
      rw[←hput,←Array.foldl_toList,Array.toList_zipIdx]
     have hv':jC M ι (patch cs off v.cells) (cz zc off u.cells.toList).toList:=by
      have:=hv.patch (j:=off) hcs
      simpa [cz] using this
     obtain⟨zc',h3,h4⟩:=ih qs (patch cs off v.cells) cs' (cz zc off u.cells.toList) h hv' (by simpa using hl) (fun k p q hp' hq'=>hp (k+1) p q hp' hq')
     refine⟨zc',?_,h4⟩
     simp only[Instr.fill,hpl]
     rw[if_neg (by simp;omega)]
     rw[←h3,←hfold]
    ·cases h
theorem pV{tm:List AV}{a:Act}(h:TR M ι tm a){ps:List (Nat × Operand)}{vs:List (Nat × AV)}(hx:ga tm ps=some vs) :
 vs.length=(ps.map fun p=>(p.1,a.eval p.2)).length ∧∀(i:Nat) p q,vs[i]?=some p→(ps.map fun p=>(p.1,a.eval p.2))[i]?=some q→p.1=q.1∧VR M ι p.2 q.2:=by
 unfold ga at hx
 refine⟨by simpa using gY hx,fun i p q hp hq=>?_⟩
 obtain⟨⟨k,o⟩,ho,hf⟩:=nM hx i p hp
 simp only[Option.map_eq_some_iff]at hf
 obtain⟨y,hy,rfl⟩:=hf
 simp only[List.getElem?_map,ho,Option.map_some,Option.some.injEq]at hq
 subst hq
 exact⟨rfl,bn h hy⟩
theorem qh{t:TypeId}{z:AV}(h:eG P t=some z) : ∃i u,P.info? t=some i∧i.zero=some u∧ofValue u=some z:=by
 simp only[eG,Option.bind_eq_some_iff]at h
 obtain⟨u,⟨i,hi,hz⟩,hu⟩:=h
 exact⟨i,u,hi,hz,hu⟩
theorem LF{t:TypeId}{vs:List (Nat × AV)}{qs:Array (Nat × Value)}{x:AV}{bs:List bN}(hl:vs.length=qs.toList.length)
 (hp : ∀(i:Nat) p q,vs[i]?=some p→qs.toList[i]?=some q→p.1=q.1∧VR M ι p.2 q.2) (h:cK P t (some vs)=some (x,bs)) :
 bs=[] ∧∃u,(Instr.build t qs).run P w = .ok u w∧VR M ι x u:=by
 unfold cK at h
 split at h
 ·rename_i z vs' hz he
  cases he
  obtain⟨it,u,hit,hiz,hu⟩:=qh hz
  obtain⟨zc,rfl,hzc⟩:=(gT (M:=M) (ι:=ι) hu).KY
  split at h
  ·rename_i n e ha
   split at h
   ·rename_i s hs
    simp only[Option.map_eq_some_iff]at h
    obtain⟨cs,hcs,he⟩:=h
    cases he
    obtain⟨ie,hie,rfl⟩:=tl hs
    obtain⟨zc',h1,h2⟩:=KN (M:=M) (ι:=ι) _ vs qs.toList z cs zc hcs hzc hl hp
    refine⟨rfl,.agg zc',run_build w t qs zc' ?_,VR.oe.2 h2⟩
    simp[Program.built,hit,Bj ha,hiz,hie,Value.cells,h1]
   ·cases h
  ·split at h
   ·rename_i ps hps
    simp only[Option.map_eq_some_iff]at h
    obtain⟨cs,hcs,he⟩:=h
    cases he
    unfold fu at hps
    split at hps
    ·rename_i fs hfs
     obtain⟨zc',h1,h2⟩:=KN (M:=M) (ι:=ι) _ vs qs.toList z cs zc hcs hzc hl hp
     refine⟨rfl,.agg zc',run_build w t qs zc' ?_,VR.oe.2 h2⟩
     simp only[Program.built,hit,hfs,hiz,hps,Value.cells]
     rw[←h1]
     congr 1
     funext i
     simp
    ·cases hps
   ·cases h
 ·cases h
theorem Qv{op:BinOp}{t:TypeId}{xo yo:Operand}{x y z:AV}{u v:Value}(hx:VR M ι x u)(hy:VR M ι y v){bs:List bN}(h:aE P op t xo yo (some x) (some y)=some (z,bs)) :
 bs=[] ∧∃r,(do eqGuard op t xo yo u v;binOp op t u v:Sem Value).run P w = .ok r w∧VR M ι z r:=by
 simp only[aE]at h
 ·split at h
  ·rename_i hc
   have key:(∃a n c,u = .slice (some a) n c∧v = .slice none 0 0)∨(∃a n c,v = .slice (some a) n c∧u = .slice none 0 0):=by
    simp only[Bool.or_eq_true,Bool.and_eq_true]at hc
    rcases hc with ⟨h1,h2⟩ | ⟨h1,h2⟩
    ·left
     have:v = .slice none 0 0:=by
      cases hy<;>simp[mo]at h2
      split at h2<;>simp_all
     cases hx<;>simp[HA]at h1
     ·exact⟨_,_,_,rfl,this⟩
     ·exact⟨_,_,_,rfl,this⟩
    ·right
     have:u = .slice none 0 0:=by
      cases hx<;>simp[mo]at h2
      split at h2<;>simp_all
     cases hy<;>simp[HA]at h1
     ·exact⟨_,_,_,rfl,this⟩
     ·exact⟨_,_,_,rfl,this⟩
   have geq : ∀op,(eqGuard op t xo yo u v).run P w = .ok () w:=by
    intro op
    rcases key with ⟨a,n,c,rfl,rfl⟩ | ⟨a,n,c,rfl,rfl⟩<;>(unfold eqGuard;cases op<;>simp)
   split at h
   ·rename_i e hu
    simp at h;obtain⟨rfl,rfl⟩:=h
    refine⟨rfl,.bool false,?_,.v rfl⟩
    simp only[Sem.run_bind,geq,Result.andThen_ok]
    rcases key with ⟨a,n,c,rfl,rfl⟩ | ⟨a,n,c,rfl,rfl⟩
    ·rw[Lib.run_eql_slice_nil w t e (some a) n c 0 0 hu];rfl
    ·rw[run_eql_nil_slice w t e (some a) n c 0 0 hu];rfl
   ·rename_i e hu
    simp at h;obtain⟨rfl,rfl⟩:=h
    refine⟨rfl,.bool true,?_,.v rfl⟩
    simp only[Sem.run_bind,geq,Result.andThen_ok]
    rcases key with ⟨a,n,c,rfl,rfl⟩ | ⟨a,n,c,rfl,rfl⟩
    ·rw[run_neq_slice_nil_any w t e (some a) n c 0 0 hu];rfl
    ·rw[run_neq_nil_slice w t e (some a) n c 0 0 hu];rfl
   ·cases h
  ·split at h
   ·rename_i x' y' hx' hy'
    simp only[cF,Option.map_eq_some_iff,Option.bind_eq_some_iff]at h
    obtain⟨z',⟨r,hr,hz⟩,he⟩:=h
    cases he
    have e1:=qi hx hx'
    have e2:=qi hy hy'
    subst e1;subst e2
    exact⟨rfl,r,lD hr w,lE hz⟩
   ·cases h
theorem SX{op:UnOp}{x z:AV}{u:Value}(hx:VR M ι x u){bs:List bN}(h:wM P op (some x)=some (z,bs)) :
 bs=[] ∧∃r,(Op.unary op u).run P w = .ok r w∧VR M ι z r:=by
 simp only[wM,cF,Option.map_eq_some_iff,Option.bind_eq_some_iff,Option.some.injEq]at h
 obtain⟨z',⟨r,⟨v,⟨x',rfl,hv⟩,hr⟩,hz⟩,he⟩:=h
 cases he
 have:=IN hx hv
 subst this
 exact⟨rfl,r,lD hr w,lE hz⟩
theorem PM{xs:List AV}{us vs:List Value}(hx:jC M ι xs us)(h:xs.mapM Eg=some vs):us=vs:=by
 apply List.ext_getElem?
 intro i
 rcases Nat.lt_or_ge i us.length with hi | hi
 ·have hi':i<xs.length:=by rw[hx.1];exact hi
  obtain⟨v,hv,hf⟩:=gZ h i xs[i] (List.getElem?_eq_getElem hi')
  rw[hv,List.getElem?_eq_getElem hi,IN (hx.2 i _ _ (List.getElem?_eq_getElem hi') (List.getElem?_eq_getElem hi)) hf]
 ·have:=gY h
  rw[List.getElem?_eq_none hi,List.getElem?_eq_none (by rw[this,hx.1];exact hi)]
theorem EI{f:Value→Value→Sem Value}{xs:List AV}{us:List Value}{z:AV}(hx:jC M ι xs us)(h:Fz f P xs=some z) :
 ∃u us',us=u :: us' ∧∃r,(us'.foldlM f u).run P w = .ok r w∧VR M ι z r:=by
 unfold Fz at h
 split at h
 ·rename_i u us' hm
  have:=PM hx hm
  subst this
  simp only[Option.bind_eq_some_iff]at h
  obtain⟨r,hr,hz⟩:=h
  exact⟨u,us',rfl,r,lD hr w,lE hz⟩
 ·cases h
theorem pn{t:TypeId}(h:isStr P t=true):P.underlying t=some .string:=by
 unfold isStr at h
 split at h
 ·assumption
 ·cases h
theorem nR{t:TypeId}(h:eR P t=true) : ∃e,P.underlying t=some (.slice e)∧P.underlying e=some (.int .u8):=by
 unfold eR at h
 split at h
 ·rename_i e he
  split at h
  ·exact⟨e,he,by assumption⟩
  ·cases h
 ·cases h
theorem Ot{t:TypeId}(h:isInt P t=true) : ∃k,P.underlying t=some (.int k):=by
 unfold isInt at h
 split at h
 ·exact⟨_,by assumption⟩
 ·cases h
end
end Go.Ab
namespace Go.Ab
section
variable{P:Program}{M:Mem}{ι:Map}{g:dk}{w:World}{r:Ref}
structure Src (P:Program) (M:Mem) (w:World) (u:Value) (z:Nat) (es:List AV) (us:List Value):Prop where
 len:us.length=es.length * z
 FR : ∀e∈es,e.cells.length=z
 one : ∀x∈us,x.oneCell'=true
 vr : ∀(i j:Nat) e x,es[i]?=some e→e.cells[j]?=some x →∃u,us[i * z+j]?=some u∧VR M ed x u
 lenOf : ∀w':World,(Builtin.lenOf u).run P w' = .ok es.length w'
 first : ∀(n:Nat)(w':World),n≤es.length→w'.heap=w.heap→(Builtin.firstCells z n u).run P w' = .ok (us.take (n * z)).toArray w'
theorem Lu{es:List AV}{z:Nat}(h : ∀e∈es,e.cells.length=z)(cell:Nat→Nat→Value) :
 ∃us:List Value,us.length=es.length * z ∧∀i j,i<es.length→j<z→us[i * z+j]?=some (cell i j):=by
 refine⟨(List.range (es.length * z)).map fun k=>cell (k / z) (k % z),by simp,?_⟩
 intro i j hi hj
 have hz:0<z:=by omega
 have:=z0 hi hj
 rw[List.getElem?_map,List.getElem?_range this]
 simp only[Option.map_some,Option.some.injEq]
 rw[Nat.mul_comm i z,Nat.mul_add_div hz,Nat.div_eq_of_lt hj,Nat.mul_add_mod,Nat.mod_eq_of_lt hj,Nat.add_zero]
theorem Kc{es:List AV}{z:Nat}(hels : ∀e∈es,e.cells.length=z)(hz:0<z∨es=[]){a:Addr}{c:Nat}(hs:a.spot=none∨es=[])(cell:Nat→Nat→Value)
 (hc : ∀i j,i<es.length→j<z→w.cell? ⟨a.block,a.off+(i * z+j),none⟩=some (cell i j)∧(cell i j).oneCell'=true)
 (hv : ∀(i j:Nat) e x,es[i]?=some e→e.cells[j]?=some x→VR M ed x (cell i j)) : ∃us,Src P M w (.slice (some a) es.length c) z es us:=by
 obtain⟨us,h1,h2⟩:=Lu hels cell
 have hdiv : ∀k,k<us.length→0<z∧k / z<es.length∧k % z<z∧k / z * z+k % z=k:=by
  intro k hk
  rw[h1]at hk
  have hz':0<z:=by
   rcases hz with h | h
   ·exact h
   ·subst h;simp at hk
  exact⟨hz',(Nat.div_lt_iff_lt_mul hz').2 hk,Nat.mod_lt _ hz',by rw[Nat.mul_comm];exact Nat.div_add_mod k z⟩
 refine⟨us,h1,hels,?_,?_,fun w'=>by simp[Builtin.lenOf],?_⟩
 ·intro x hx
  obtain⟨k,hk,hkx⟩:=List.getElem_of_mem hx
  obtain⟨hz',ha,hb,e⟩:=hdiv k hk
  have:=h2 _ _ ha hb
  rw[e,List.getElem?_eq_getElem hk,hkx]at this
  injection this with this
  rw[this]
  exact(hc _ _ ha hb).2
 ·intro i j e x he hx
  have hi:=(List.getElem?_eq_some_iff.1 he).1
  have hj:j<z:=by
   rw[←hels e (List.mem_of_getElem? he)]
   exact(List.getElem?_eq_some_iff.1 hx).1
  exact⟨cell i j,h2 i j hi hj,hv i j e x he hx⟩
 ·intro n w' hn hw'
  have hle:n * z≤us.length:=by rw[h1];exact Nat.mul_le_mul_right _ hn
  refine run_firstCells_some (P:=P) w' z n a es.length c (us.take (n * z)) (by simp;omega) ?_
  intro j v hj
  rw[List.getElem?_take]at hj
  split at hj
  ·rename_i hlt
   obtain⟨hz',ha,hb,e⟩:=hdiv j (by omega)
   have:=h2 _ _ ha hb
   rw[e,hj]at this
   cases this
   have hs:=hs.resolve_right (by intro e;subst e;simp at ha)
   rw[jo hs,fW]
   have:=(hc _ _ ha hb).1
   rw[e]at this
   rw[World.cell?_of_block (w:=w) (by rw[hw'])]
   exact this
  ·cases hj
theorem getElems(es:List AV)(off len:Nat)(hl:off+len≤es.length):((es.drop off).take len).length=len ∧∀i,i<len→((es.drop off).take len)[i]?=es[off+i]? :=
 ⟨by simp;omega,fun i hi=>by rw[List.getElem?_take,if_pos hi,List.getElem?_drop]⟩
theorem lJ(hS:fh M ι g w){x:AV}{u:Value}(hx:VR M ι x u){z:Nat}{es:List AV}(hz:0<z)(h:cT g x=some (z,es)) : ∃us,Src P M w u z es us:=by
 unfold cT at h
 split at h
 ·rename_i s
  cases h
  cases hx
  refine⟨s.data.toList.map fun b => .int .u8 b.toNat,?_,?_,?_,?_,?_,?_⟩
  ·simp
  ·intro e he
   simp only[List.mem_map]at he
   obtain⟨b,_,rfl⟩:=he
   rfl
  ·intro x hx
   simp only[List.mem_map]at hx
   obtain⟨b,_,rfl⟩:=hx
   rfl
  ·intro i j e x he hx
   simp only[List.getElem?_map,Option.map_eq_some_iff]at he
   obtain⟨b,hb,rfl⟩:=he
   cases j with
   | succ j=>simp[AV.cells]at hx
   | zero =>
    simp[AV.cells]at hx
    subst hx
    exact⟨.int .u8 b.toNat,by simp[hb],.v rfl⟩
  ·intro w'
   simp only[Builtin.lenOf,Sem.run_pure,List.length_map,Array.length_toList]
   rfl
  ·intro n w' hn hw'
   simp only[Builtin.firstCells,Nat.mul_one,Sem.run_pure]
   congr 1
   apply Array.ext'
   simp only[Array.toList_map,ByteArray.data_extract,Array.toList_extract]
   rw[List.extract_eq_take_drop]
   simp[List.map_take]
 ·rename_i esz es' cap
  cases h
  cases hx with | cw cell hs hc hk hm he hh =>
  rename_i a c
  exact Kc he (.inl hz) hs cell (fun i j hi hj=>⟨hS.mem _ _ _ (hm i j hi hj).1,(hm i j hi hj).2⟩) hh
 ·rename_i r' off len cap
  split at h
  ·rename_i b hb
   split at h
   ·rename_i hc
    cases h
    obtain⟨harr,hlen⟩:=hc
    cases hx with | cM hr hbb hs ha hcc hn hk hzl =>
    rename_i l a c
    have hbk:=hS.at hr hzl hb
    obtain⟨h1,h2⟩:=getElems b.es off len hlen
    have haddr:0<len→a.off=off * b.esz:=by
     intro h0
     rcases ha with h | h
     ·omega
     ·rw[h,hbk.esz]
    have key : ∀i j,i<len→j<b.esz →∃u,w.cell? ⟨a.block,a.off+(i * b.esz+j),none⟩=some u∧u.oneCell'=true ∧∀e x,b.es[off+i]?=some e→e.cells[j]?=some x→VR M ed x u:=by
     intro i j hi hj
     have he:b.es[off+i]?=some b.es[off+i]:=List.getElem?_eq_getElem (by omega)
     have hcl:=hbk.cells b.es[off+i] (List.getElem_mem _)
     obtain⟨u,hu,h1,h2⟩:=hbk.cell (off+i) he j _ (List.getElem?_eq_getElem (by omega:j<b.es[off+i].cells.length))
     refine⟨u,?_,h1,?_⟩
     ·rw[haddr (by omega),hbb,show off * b.esz+(i * b.esz+j)=(off+i) * b.esz+j by rw[Nat.add_mul];omega]
      exact hu
     ·intro e x he' hx'
      rw[he]at he';cases he'
      rw[List.getElem?_eq_getElem (by omega:j<b.es[off+i].cells.length)]at hx';cases hx'
      rw[bN.map,if_pos harr]at h2
      exact h2
    let cell:Nat→Nat→Value:=fun i j=>(w.cell? ⟨a.block,a.off+(i * b.esz+j),none⟩).getD undef
    have:=Kc (P:=P) (M:=M) (w:=w) (es:=(b.es.drop off).take len) (z:=b.esz) (a:=a) (c:=c)
     (by intro e he;exact hbk.cells e (List.mem_of_mem_drop (List.mem_of_mem_take he))) (.inl hz) (.inl hs) cell
     (by
      intro i j hi hj
      rw[h1]at hi
      obtain⟨u,h3,h4,_⟩:=key i j hi hj
      simp[cell,h3,h4])
     (by
      intro i j e x he hx
      have hi:i<len:=by have:=(List.getElem?_eq_some_iff.1 he).1;omega
      rw[h2 i hi]at he
      have hj:j<b.esz:=by
       rw[←hbk.cells e (List.mem_of_getElem? he)]
       exact(List.getElem?_eq_some_iff.1 hx).1
      obtain⟨u,h3,h4,h5⟩:=key i j hi hj
      simp only[cell,h3,Option.getD_some]
      exact h5 e x he hx)
    rw[h1]at this
    exact this
   ·cases h
  ·cases h
 ·cases h
inductive zx:Option Value→Option Int→Prop
 | none:zx none none
 | some (k n):zx (some (.int k n)) (some n)
theorem p6{tm:List AV}{a:Act}(h:TR M ι tm a){o:Option Operand}{x:Option Int}(hx:jH tm o=some x):zx (o.map a.eval) x:=by
 cases o with
 | none=>simp only[jH,Option.some.injEq]at hx;subst hx;exact .none
 | some o =>
  simp only[jH]at hx
  split at hx
  ·rename_i n hn
   injection hx with hx
   subst hx
   simp only[Option.bind_eq_some_iff]at hn
   obtain⟨y,hy,hi⟩:=hn
   obtain⟨k,hk⟩:=sN (bn h hy) hi
   rw[Option.map_some,hk]
   exact .some k n
  ·cases hx
theorem Al{len c:Nat}{cap:Option Nat}(hlc:len≤c)(hk : ∀k,cap=some k→c=k){lo hi mx:Option Int}{l h:Nat}{c':Option Nat}(hb:bounds len cap lo hi mx=some (l,h,c'))
 {vlo vhi vmx:Option Value} (h1:zx vlo lo) (h2:zx vhi hi) (h3:zx vmx mx) :
 l≤h∧h≤len ∧∃m,h≤m∧m≤c∧(∀k,c'=some k→m - l=k)∧(Instr.sliceBounds true len c vlo vhi vmx).run P w = .ok (l,h,m) w:=by
 have bd : ∀(k:IntKind)(i:Int)(y:Nat)(code:BoundsCode),0≤i→i≤y→(Instr.sliceBound (.int k i) y code).run P w = .ok i.toNat w:=fun k i y code=>run_sliceBound w k i y code
 cases h3 with
 | some km m =>
  cases h2 with
  | none=>simp[bounds]at hb
  | some kh hh =>
   simp only[bounds]at hb
   obtain⟨⟨c1,c2,c3,c4,c5⟩,hb⟩:=Option.ite_none_right_eq_some.1 hb
   simp only[Option.some.injEq,Prod.mk.injEq]at hb
   obtain⟨rfl,rfl,rfl⟩:=hb
   have hmc:m≤c:=by
    cases cap with
    | none=>simp at c4;omega
    | some k=>have:=hk k rfl;simp at c4;omega
   have em:((m.toNat:Nat):Int)=m:=Int.toNat_of_nonneg (by omega)
   have eh:((hh.toNat:Nat):Int)=hh:=Int.toNat_of_nonneg (by omega)
   refine⟨by omega,by omega,m.toNat,by omega,by omega,by intro k hk';cases hk';rfl,?_⟩
   cases h1 with
   | none =>
    simp only[Option.getD_none]at c1 c2
    simp only[Instr.sliceBounds,Sem.run_bind,bd km m c _ (by omega) (by omega),Result.andThen_ok,bd kh hh m.toNat _ (by omega) (by omega),Sem.run_pure,Option.getD_none]
    rfl
   | some kl ll =>
    simp only[Option.getD_some]at c1 c2
    simp only[Instr.sliceBounds,Sem.run_bind,bd km m c _ (by omega) (by omega),Result.andThen_ok,bd kh hh m.toNat _ (by omega) (by omega),bd kl ll hh.toNat _ (by omega) (by omega),Sem.run_pure,Option.getD_some]
 | none =>
  simp only[bounds]at hb
  obtain⟨⟨c1,c2,c3⟩,hb⟩:=Option.ite_none_right_eq_some.1 hb
  simp only[Option.some.injEq,Prod.mk.injEq]at hb
  obtain⟨rfl,rfl,rfl⟩:=hb
  refine⟨by omega,by omega,c,by omega,Nat.le_refl _,?_,?_⟩
  ·intro k hk'
   simp only[Option.map_eq_some_iff]at hk'
   obtain⟨k0,hk0,rfl⟩:=hk'
   rw[hk k0 hk0]
  ·cases h2 with
   | none =>
    simp only[Option.getD_none]at c2 c3 ⊢
    cases h1 with
    | none=>simp[Instr.sliceBounds]
    | some kl ll =>
     simp only[Option.getD_some]at c1 c2 ⊢
     simp only[Instr.sliceBounds,Sem.run_bind,Sem.run_pure,Result.andThen_ok,bd kl ll len _ (by omega) (by omega)]
     simp
   | some kh hh =>
    simp only[Option.getD_some]at c2 c3 ⊢
    have eh:((hh.toNat:Nat):Int)=hh:=Int.toNat_of_nonneg (by omega)
    cases h1 with
    | none =>
     simp only[Option.getD_none]at c1 c2 ⊢
     simp only[Instr.sliceBounds,Sem.run_bind,Sem.run_pure,Result.andThen_ok,bd kh hh c _ (by omega) (by omega)]
     simp
    | some kl ll =>
     simp only[Option.getD_some]at c1 c2 ⊢
     simp only[Instr.sliceBounds,Sem.run_bind,Sem.run_pure,Result.andThen_ok,bd kh hh c _ (by omega) (by omega),bd kl ll hh.toNat _ (by omega) (by omega)]
theorem pO{t e:TypeId}(hu:P.underlying t=some (.slice e)){s:Nat}(hs:aU P e=some s){a:Option Addr}{len c l h m:Nat}{vlo vhi vmx:Option Value}
 (hb:(Instr.sliceBounds true len c vlo vhi vmx).run P w = .ok (l,h,m) w) :
 (Instr.sliceAt t (.slice a len c) vlo vhi vmx).run P w = .ok (.slice (if m=l then a else a.map (·.add (l * s))) (h - l) (m - l)) w:=by
 simp[Instr.sliceAt,bH hu,Instr.slice,hb,cO hs]
theorem LA(hS:fh M ι g w){t:TypeId}{y x:AV}{u0:Value}(hy:VR M ι y u0){lo hi mx:Option Int}{vlo vhi vmx:Option Value}
 (h1:zx vlo lo) (h2:zx vhi hi) (h3:zx vmx mx)
 {bs:List bN} (h:eQ P g t (some y) (some lo) (some hi) (some mx)=some (x,bs)) :
 bs=[] ∧∃u,(Instr.sliceAt t u0 vlo vhi vmx).run P w = .ok u w∧VR M ι x u:=by
 simp only[eQ]at h
 split at h
 ·
  rename_i e
  cases e
  cases hy
  obtain⟨ht,h⟩:=Option.ite_none_right_eq_some.1 h
  simp only[Option.map_eq_some_iff]at h
  obtain⟨⟨l,hh,c'⟩,hb,e⟩:=h
  cases e
  obtain⟨s,hs⟩:=Option.isSome_iff_exists.1 ht
  simp only[Option.bind_eq_some_iff]at hs
  obtain⟨e,he,hs⟩:=hs
  obtain⟨b1,b2,m,b3,b4,b5,b6⟩:=Al (P:=P) (w:=w) (Nat.le_refl 0) (by intro k hk;cases hk;rfl) hb h1 h2 h3
  have e1:l=0:=by omega
  have e2:hh=0:=by omega
  have e3:m=0:=by omega
  subst e1;subst e2;subst e3
  exact⟨rfl,_,pO (fS he) hs b6,.v rfl⟩
 ·
  rename_i s e
  cases e
  cases hy
  obtain⟨ht,h'⟩:=Option.ite_none_right_eq_some.1 h
  clear h
  simp only[Bool.and_eq_true,Option.isNone_iff_eq_none]at ht
  obtain⟨ht,rfl⟩:=ht
  cases h3
  obtain⟨⟨l,hh,c'⟩,hb,e⟩:=Option.map_eq_some_iff.1 h'
  cases e
  have hu:=pn ht
  have bd : ∀(k:IntKind)(i:Int)(y:Nat)(code:BoundsCode),0≤i→i≤y→(Instr.sliceBound (.int k i) y code).run P w = .ok i.toNat w:=fun k i y code=>run_sliceBound w k i y code
  simp only[bounds]at hb
  obtain⟨⟨c1,c2,c3⟩,hb⟩:=Option.ite_none_right_eq_some.1 hb
  simp only[Option.some.injEq,Prod.mk.injEq]at hb
  obtain⟨rfl,rfl,rfl⟩:=hb
  refine⟨rfl,.string (s.extract (lo.getD 0).toNat (hi.getD s.size).toNat),?_,.v rfl⟩
  cases h2 with
  | none =>
   simp only[Option.getD_none]at c2 c3;try simp only[Option.getD_none,Option.getD_some]
   cases h1 with
   | none=>simp[Instr.sliceAt,bH hu,Instr.slice,Instr.sliceBounds]
   | some kl ll =>
    simp only[Option.getD_some]at c1 c2;try simp only[Option.getD_none,Option.getD_some]
    simp[Instr.sliceAt,bH hu,Instr.slice,Instr.sliceBounds,bd kl ll s.size _ c1 c2]
  | some kh hh =>
   simp only[Option.getD_some]at c2 c3;try simp only[Option.getD_none,Option.getD_some]
   have eh:((hh.toNat:Nat):Int)=hh:=Int.toNat_of_nonneg (by omega)
   cases h1 with
   | none =>
    simp only[Option.getD_none]at c1 c2;try simp only[Option.getD_none,Option.getD_some]
    simp[Instr.sliceAt,bH hu,Instr.slice,Instr.sliceBounds,bd kh hh s.size _ c2 c3]
   | some kl ll =>
    simp only[Option.getD_some]at c1 c2;try simp only[Option.getD_none,Option.getD_some]
    simp[Instr.sliceAt,bH hu,Instr.slice,Instr.sliceBounds,bd kh hh s.size _ (by omega) c3,bd kl ll hh.toNat _ c1 (by omega)]
 ·
  rename_i esz es cap e
  cases e
  obtain⟨ht,h⟩:=Option.ite_none_right_eq_some.1 h
  simp only[Option.map_eq_some_iff]at h
  obtain⟨⟨l,hh,c'⟩,hb,e⟩:=h
  cases e
  simp only[Option.bind_eq_some_iff]at ht
  obtain⟨e,he,hs⟩:=ht
  cases hy with | cw cell hsp hc hk hm hes hh' =>
  rename_i a c
  obtain⟨b1,b2,m,b3,b4,b5,b6⟩:=Al (P:=P) (w:=w) hc hk hb h1 h2 h3
  refine⟨rfl,_,pO (fS he) hs b6,?_⟩
  obtain⟨g1,g2⟩:=getElems es l (hh - l) (by omega)
  have:=VR.cw (M:=M) (ι:=ι) (esz:=esz) (es:=(es.drop l).take (hh - l)) (cap:=c') (a:=(if m=l then a else a.add (l * esz))) (c:=m - l) (fun i j=>cell (l+i) j)
   (by
    rcases hsp with hsp | hsp
    ·left
     split
     ·exact hsp
     ·rw[jo hsp,fW]
    ·right;subst hsp;simp) (by omega) b5
   (by
    intro i j hi hj
    rw[g1]at hi
    have hsp:=hsp.resolve_right (by intro e;subst e;simp at b2 hc;omega)
    rw[if_neg (by omega),jo hsp,fW]
    have:=hm (l+i) j (by omega) hj
    rw[show a.off+((l+i) * esz+j)=a.off+l * esz+(i * esz+j) by rw[Nat.add_mul];omega]at this
    exact this)
   (by intro e he;exact hes e (List.mem_of_mem_drop (List.mem_of_mem_take he)))
   (by
    intro i j e x hi hx
    have hi':i<hh - l:=by have:=(List.getElem?_eq_some_iff.1 hi).1;omega
    rw[g2 i hi']at hi
    exact hh' (l+i) j e x hi hx)
  rw[g1]at this
  have e2:(if m=l then some a else (some a).map (·.add (l * esz)))=some (if m=l then a else a.add (l * esz)):=by split<;>rfl
  rw[e2]
  exact this
 ·
  rename_i r' off len cap e
  cases e
  split at h
  ·rename_i b hb'
   obtain⟨ht,h⟩:=Option.ite_none_right_eq_some.1 h
   simp only[Option.map_eq_some_iff]at h
   obtain⟨⟨l,hh,c'⟩,hb,e⟩:=h
   cases e
   simp only[Option.bind_eq_some_iff]at ht
   obtain⟨e,he,hs⟩:=ht
   cases hy with | cM hr hbb hsp ha hc hn hk hzl =>
   rename_i lo' a c
   obtain⟨l',hl',hbk⟩:=hS.live r' b hb'
   rw[hr]at hl';cases hl'
   obtain⟨b1,b2,m,b3,b4,b5,b6⟩:=Al (P:=P) (w:=w) hc hk hb h1 h2 h3
   refine⟨rfl,_,pO (fS he) hs b6,?_⟩
   have e2:(if m=l then some a else (some a).map (·.add (l * b.esz)))=some (if m=l then a else a.add (l * b.esz)):=by split<;>rfl
   rw[e2]
   show VR M ι (.cM r' (off+l) (hh - l) c') _
   by_cases hml:m=l
   ·rw[if_pos hml]
    exact .cM hr hbb hsp (.inl (by omega)) (by omega) (.inl (by omega)) b5 hzl
   ·rw[if_neg hml,jo hsp,fW]
    refine .cM hr hbb rfl (.inr ?_) (by omega) (.inr ?_) b5 hzl
    ·rcases ha with h | h
     ·omega
     ·simp only[h,hbk.esz,Nat.add_mul]
    ·rcases hn with h | h
     ·omega
     ·omega
  ·cases h
 ·cases h
theorem J0{len c:Nat}(hlc:len≤c){lo hi:Option Int}(c1:0≤lo.getD 0)(c2:lo.getD 0≤hi.getD len)(c3:hi.getD len≤c)
 {vlo vhi:Option Value} (h1:zx vlo lo) (h2:zx vhi hi) :
 (Instr.sliceBounds true len c vlo vhi none).run P w = .ok ((lo.getD 0).toNat,(hi.getD len).toNat,c) w:=by
 have bd : ∀(k:IntKind)(i:Int)(y:Nat)(code:BoundsCode),0≤i→i≤y→(Instr.sliceBound (.int k i) y code).run P w = .ok i.toNat w:=fun k i y code=>run_sliceBound w k i y code
 cases h2 with
 | none =>
  simp only[Option.getD_none]at c2 c3 ⊢
  cases h1 with
  | none=>simp[Instr.sliceBounds]
  | some kl ll =>
   simp only[Option.getD_some]at c1 c2 ⊢
   simp only[Instr.sliceBounds,Sem.run_bind,Sem.run_pure,Result.andThen_ok,bd kl ll len _ (by omega) (by omega)]
   simp
 | some kh hh =>
  simp only[Option.getD_some]at c2 c3 ⊢
  have eh:((hh.toNat:Nat):Int)=hh:=Int.toNat_of_nonneg (by omega)
  cases h1 with
  | none =>
   simp only[Option.getD_none]at c1 c2 ⊢
   simp only[Instr.sliceBounds,Sem.run_bind,Sem.run_pure,Result.andThen_ok,bd kh hh c _ (by omega) (by omega)]
   simp
  | some kl ll =>
   simp only[Option.getD_some]at c1 c2 ⊢
   simp only[Instr.sliceBounds,Sem.run_bind,Sem.run_pure,Result.andThen_ok,bd kh hh c _ (by omega) (by omega),bd kl ll hh.toNat _ (by omega) (by omega)]
theorem Jc(hS:fh M ι g w){t:TypeId}{y x:AV}{u0:Value}(hy:VR M ι y u0){lo hi mx:Option Int}{vlo vhi vmx:Option Value}
 (h1:zx vlo lo) (h2:zx vhi hi) (h3:zx vmx mx)
 {bs:List bN} (h:ra P g t (some y) (some lo) (some hi) (some mx)=some (x,bs)) :
 bs=[] ∧∃u,(Instr.sliceAt t u0 vlo vhi vmx).run P w = .ok u w∧VR M ι x u:=by
 unfold ra at h
 split at h
 ·rename_i lo' hi' r' off len cap e1 e2 e3 e4
  simp only[Option.some.injEq]at e1 e2 e3 e4
  subst e1 e2 e3 e4
  cases h3
  split at h
  ·rename_i b hb'
   obtain⟨⟨ht,c1,c2,c3⟩,h⟩:=Option.ite_none_right_eq_some.1 h
   simp only[Option.some.injEq,Prod.mk.injEq]at h
   obtain⟨rfl,rfl⟩:=h
   simp only[Option.bind_eq_some_iff]at ht
   obtain⟨e,he,hs⟩:=ht
   cases hy with | cM hr hbb hsp ha hc hn hk hzl =>
   rename_i lo' a c
   have hck:((cap.getD len:Nat):Int)≤c:=by
    cases cap with
    | none=>simpa using hc
    | some k=>rw[hk k rfl];simp
   have hkk : ∀m:Nat,∀k,cap.map (· - m)=some k→c - m=k:=by
    intro m k hk'
    obtain⟨k0,hk0,rfl⟩:=Option.map_eq_some_iff.1 hk'
    rw[hk k0 hk0]
   replace c3:hi.getD (len:Int)≤c:=Int.le_trans c3 hck
   clear hck
   obtain⟨l',hl',hbk⟩:=hS.live r' b hb'
   rw[hr]at hl';cases hl'
   have b6:=J0 (P:=P) (w:=w) hc c1 c2 c3 h1 h2
   have e1:(((lo.getD 0).toNat:Nat):Int)=lo.getD 0:=Int.toNat_of_nonneg c1
   have e2:(((hi.getD (len:Int)).toNat:Nat):Int)=hi.getD len:=Int.toNat_of_nonneg (by omega)
   generalize (lo.getD 0).toNat=l at *
   generalize (hi.getD (len:Int)).toNat=hh at *
   refine⟨rfl,_,pO (fS he) hs b6,?_⟩
   have e2':(if c=l then some a else (some a).map (·.add (l * b.esz)))=some (if c=l then a else a.add (l * b.esz)):=by split<;>rfl
   rw[e2']
   show VR M ι (.cM r' (off+l) (hh - l) (cap.map (· - l))) _
   by_cases hml:c=l
   ·rw[if_pos hml]
    exact .cM hr hbb hsp (.inl (by omega)) (by omega) (.inl (by omega)) (hkk l) hzl
   ·rw[if_neg hml,jo hsp,fW]
    refine .cM hr hbb rfl (.inr ?_) (by omega) (.inr ?_) (hkk l) hzl
    ·rcases ha with h | h
     ·omega
     ·simp only[h,hbk.esz,Nat.add_mul]
    ·rcases hn with h | h
     ·omega
     ·omega
  ·cases h
 ·cases h
theorem NF(hS:fh M ι g w){t tR:TypeId}{args:List AV}{us:List Value}(hv:jC M ι args us){x:AV}{bs:List bN}(h:G0 P g t args=some (x,bs)) :
 bs=[]∧x = .v (.bool false)∧(Extern.SlicesOverlaps.overlaps #[t,t] #[tR] us.toArray).run P w = .ok (.bool false) w:=by
 unfold G0 at h
 split at h
 ·rename_i r off len cap r' off' len' cap' e he
  split at h
  ·rename_i b b' z hb hb' hz
   obtain⟨⟨hne,h1,h2,h3⟩,h⟩:=Option.ite_none_right_eq_some.1 h
   simp only[Option.some.injEq,Prod.mk.injEq]at h
   obtain⟨rfl,rfl⟩:=h
   refine⟨rfl,rfl,?_⟩
   obtain⟨hlen,hall⟩:=hv
   match us,hlen,hall with
   | [ua,ub],hlen,hall =>
   have va:=hall 0 _ ua rfl rfl
   have vb:=hall 1 _ ub rfl rfl
   clear hall hlen
   cases va with | cM hr hbb hsp ha hc hn hk hzl =>
   rename_i l a c
   cases vb with | cM hr' hbb' hsp' ha' hc' hn' hk' hzl' =>
   rename_i l' a' c'
   have ht:=fS he
   have hA:=hS.at hr hzl hb
   have hB:=hS.at hr' hzl' hb'
   obtain⟨arr,T,fz,hh,hsz,hfz,_⟩:=hA.heap
   obtain⟨arr',T',fz',hh',hsz',hfz',_⟩:=hB.heap
   have hlb:l.b≠l'.b:=fun e=>hne (hS.inj r r' b b' l l' hb hb' hr hr' e)
   have hsz0 : ∀w:World,(Go.sizeOf e).run P w = .ok z w:=fun w=>cO hz w
   show(Extern.SlicesOverlaps.overlaps #[t,t] #[tR] #[.slice (some a) len c,.slice (some a') len' c']).run P w=_
   by_cases h0:len=0∨len'=0
   ·have h0':(len=0∨len'=0∨z=0):=by omega
    change Sem.run P (α:=Value) (do
     let some t:=(#[t,t]:Array TypeId)[0]? | stuck "slices.overlaps: no parameter types"
     let .slice elem ←underlying t | stuck "slices.overlaps: slice type expected"
     let size ←sizeOf elem
     match (some a:Option Addr),(some a':Option Addr) with
     | some a,some b =>
      if len=0∨len'=0∨size=0 then pure (Value.bool false)
      else if a.block != b.block&&(←frozen a)&&(←frozen b) then unsupported .addressObserved
      else do
       if a.block != b.block then do
        noView a;noView b
        if ←mayBeOne a b then return Value.bool ((←choose (.extern "sameAddr.stringBytes" 2)) == 1)
       pure (Value.bool (a.block == b.block&&a.off<b.off+len' * size&&b.off<a.off+len * size))
     | _,_=>pure (Value.bool false)) w=_
    simp[run_underlying ht,hsz0,h0']
   ·have hcn:off+c≤l.n:=by rcases hn with h | h<;>omega
    have hcn':off'+c'≤l'.n:=by rcases hn' with h | h<;>omega
    have hao:a.off=off * l.esz:=by rcases ha with h | h<;>omega
    have hpos:0<arr'.size:=by rw[hsz'];exact Nat.mul_pos (by omega) (by omega)
    have hlt:a.off<arr.size:=by
     rw[hao,hsz,hA.esz]
     exact(Nat.mul_lt_mul_right (by omega)).2 (by omega)
    refine Lib.run_overlaps_apart (P:=P) w t tR e ht z hsz0 a a' len c len' c' (by rw[hbb,hbb'];exact hlb) T T' arr.size arr'.size ?_ ?_ (by omega) ?_ ?_
    ·unfold World.shape?;rw[hbb,hh]
    ·unfold World.shape?;rw[hbb',hh']
    ·unfold World.frozen?
     rw[hbb,hh]
     have:=hfz.1 a.off hlt
     obtain⟨f1,f2⟩:=fz
     simp only at this ⊢
     rw[Bool.and_eq_false_iff]
     simp only[decide_eq_false_iff_not]
     by_cases q:f1≤a.off
     ·exact .inr fun q2=>this ⟨q,.inl q2⟩
     ·exact .inl q
    ·unfold World.frozen?
     simp only
     rw[hbb,hh]
     have:=hfz.2 h1
     obtain⟨f1,f2⟩:=fz
     simp only at this ⊢
     rw[Bool.and_eq_false_iff]
     simp only[decide_eq_false_iff_not]
     by_cases q:f1≤arr.size
     ·exact .inr fun q2=>this ⟨q,q2⟩
     ·exact .inl q
  ·cases h
 ·cases h
end
end Go.Ab
namespace Go.Ab
section
variable{P:Program}{M:Mem}{ι:Map}{g:dk}{w:World}{r:Ref}
structure Row (M:Mem) (z:Nat) (es:List AV) (us:List Value):Prop where
 len:us.length=es.length * z
 FR : ∀e∈es,e.cells.length=z
 one : ∀x∈us,x.oneCell'=true
 vr : ∀(i j:Nat) e x,es[i]?=some e→e.cells[j]?=some x →∃u,us[i * z+j]?=some u∧VR M ed x u
theorem Src.row{u z es us}(h:Src P M w u z es us):Row M z es us:=⟨h.len,h.FR,h.one,h.vr⟩
theorem Row.nil{z:Nat}:Row M z [] []:=⟨by simp,by simp,by simp,by intro i j e x h;simp at h⟩
theorem Row.append{z es us es' us'}(h:Row M z es us)(h':Row M z es' us'):Row M z (es++es') (us++us'):=by
 refine⟨by simp[h.len,h'.len,Nat.add_mul],?_,?_,?_⟩
 ·intro e he
  rcases List.mem_append.1 he with h1 | h1
  ·exact h.FR e h1
  ·exact h'.FR e h1
 ·intro e he
  rcases List.mem_append.1 he with h1 | h1
  ·exact h.one e h1
  ·exact h'.one e h1
 ·intro i j e x he hx
  rcases Nat.lt_or_ge i es.length with hi | hi
  ·rw[List.getElem?_append_left hi]at he
   obtain⟨u,hu,hv⟩:=h.vr i j e x he hx
   exact⟨u,by rw[List.getElem?_append_left (List.getElem?_eq_some_iff.1 hu).1];exact hu,hv⟩
  ·rw[List.getElem?_append_right hi]at he
   obtain⟨u,hu,hv⟩:=h'.vr _ j e x he hx
   have hle:es.length * z≤i * z:=Nat.mul_le_mul_right _ hi
   refine⟨u,?_,hv⟩
   rw[List.getElem?_append_right (by rw[h.len];omega),h.len,show i * z+j - es.length * z=(i - es.length) * z+j by rw[Nat.sub_mul];omega]
   exact hu
theorem Row.cons{z es us e vs}(he:jC M ed e vs)(hl:e.length=z)(h1 : ∀x∈vs,x.oneCell'=true)(y:AV)(hy:y.cells=e)(h:Row M z es us):Row M z (y :: es) (vs++us):=by
 have:Row M z [y] vs:=by
  refine⟨by rw[←he.1,hl];simp,by intro e' he';simp at he';subst he';rw[hy];exact hl,h1,?_⟩
  intro i j e' x hi hx
  cases i with
  | succ i=>simp at hi
  | zero =>
   simp at hi
   subst hi
   rw[hy]at hx
   have hj:j<vs.length:=by have:=(List.getElem?_eq_some_iff.1 hx).1;rw[←he.1];exact this
   exact⟨vs[j],by simp[hj],he.2 j x vs[j] hx (List.getElem?_eq_getElem hj)⟩
 exact this.append h
theorem Row.replicate{z:Nat}{y:AV}{u:Value}(hv:VR M ed y u)(hl:y.cells.length=z)(h1:y.cells.all AV.one=true) : ∀n,Row M z (List.replicate n y) (List.replicate n u.cells.toList).flatten:=by
 intro n
 have hone : ∀x∈u.cells.toList,x.oneCell'=true:=by
  intro x hx
  obtain⟨j,hj,hjx⟩:=List.getElem_of_mem hx
  have hc:=hv.cells
  have hj':j<y.cells.length:=by rw[hc.1];exact hj
  have:=hc.2 j _ x (List.getElem?_eq_getElem hj') (by rw[←hjx];exact List.getElem?_eq_getElem hj)
  exact this.one (by simp only[List.all_eq_true]at h1;exact h1 _ (List.getElem_mem hj'))
 induction n with
 | zero=>exact Row.nil
 | succ n ih=>rw[List.replicate_succ,List.replicate_succ,List.flatten_cons];exact Row.cons hv.cells hl hone y rfl ih
theorem Row.mono{z es us}{M':Mem}(h:Row M z es us)(hM : ∀b o x,M b o=some x→M' b o=some x):Row M' z es us :=
 ⟨h.len,h.FR,h.one,fun i j e x he hx=>by obtain⟨u,hu,hv⟩:=h.vr i j e x he hx;exact⟨u,hu,hv.mono hM _ (fun _ _ h=>h)⟩⟩
theorem s8(hS:fh M ι g w)(hr:r.k=0)(hq:ι r=none){w':World}{arr:Array Value}{T:TypeId}{fz:Nat × Nat}(hw:Aq w w' (.cells arr T fz))
 {z:Nat} {es:List AV} {us:List Value} (hrow:Row M z es us) (harr : ∀(k:Nat) u,us[k]?=some u→arr[k]?=some u) {n c:Nat} (hsz:arr.size=n * z)
 (hfz:zw z arr.size fz) (h1:es.length≤c) (h2:c≤n) {cap:Option Nat} (hcap : ∀k,cap=some k→c=k) (hz:0<z) :
 gI M ι g w r (.cM r 0 es.length cap) [⟨z,es,true,false⟩] (.slice (some ⟨w.heap.size,0,none⟩) es.length c) w':=by
 obtain⟨h3,h4⟩:=hS.alloc (q:=r) hq hw ⟨z,es,true,false⟩ hz n hsz hfz (by simp;omega) hrow.FR
  (by
   intro i j e x he hx
   obtain⟨u,hu,hv⟩:=hrow.vr i j e x he hx
   exact⟨u,harr _ _ hu,hrow.one u (List.mem_of_getElem? hu),by simpa [bN.map] using hv⟩)
 refine⟨M,_,?_,by rw[mG _ _ hr];exact h3,by rw[mG _ _ hr];exact h4,?_⟩
 ·exact .cM (l:=⟨w.heap.size,z,n⟩) (by simp[gp]) rfl rfl (.inr (by simp)) h1 (.inr (by simp;omega)) hcap hz
 ·intro q hq' hk
  have:q≠r:=by intro e;exact hk 0 (by simp) (by rw[e];cases r;simp_all)
  simpa [gp,this] using hq'
def HE(M:Mem)(b:Nat)(us:List Value):Mem:=fun b' o=>if b'=b then us[o]? else M b' o
theorem Ms(hS:fh M ι g w){w':World}{arr:Array Value}{T:TypeId}{fz:Nat × Nat}(hw:Aq w w' (.cells arr T fz))
 {z:Nat} {es:List AV} {us:List Value} (hrow:Row M z es us) (harr : ∀(k:Nat) u,us[k]?=some u→arr[k]?=some u) {c:Nat}
 (h1:es.length≤c) {cap:Option Nat} (hcap : ∀k,cap=some k→c=k) :
 gI M ι g w r (.cw z es cap) [] (.slice (some ⟨w.heap.size,0,none⟩) es.length c) w':=by
 have hMlt : ∀b o x,M b o=some x→b<w.heap.size:=fun b o x h=>World.block_lt_of_cell? w ⟨b,o,none⟩ (hS.mem b o x h)
 have hle : ∀b o x,M b o=some x→HE M w.heap.size us b o=some x:=by
  intro b o x h
  unfold HE
  rw[if_neg (Nat.ne_of_lt (hMlt b o x h))]
  exact h
 have hnew:w'.heap[w.heap.size]?=some (.cells arr T fz):=by rw[hw.heap];simp
 have hcl : ∀i j,i<es.length→j<z →∃u,us[i * z+j]?=some u:=by
  intro i j hi hj
  exact⟨us[i * z+j]'(by rw[hrow.len];exact z0 hi hj),List.getElem?_eq_getElem _⟩
 refine⟨HE M w.heap.size us,ι,?_,?_,?_,fun q hq _=>hq⟩
 ·refine VR.cw (M:=HE M w.heap.size us) (ι:=ι) (esz:=z) (es:=es) (cap:=cap) (a:=⟨w.heap.size,0,none⟩) (c:=c) (fun i j=>(us[i * z+j]?).getD undef) (.inl rfl) h1 hcap ?_ hrow.FR ?_
  ·intro i j hi hj
   obtain⟨u,hu⟩:=hcl i j hi hj
   simp only[HE,if_true,Nat.zero_add,hu,Option.getD_some]
   exact⟨trivial,hrow.one u (List.mem_of_getElem? hu)⟩
  ·intro i j e x he hx
   obtain⟨u,hu,hv⟩:=hrow.vr i j e x he hx
   simp only[hu,Option.getD_some]
   exact hv.mono hle _ (fun _ _ h=>h)
 ·rw[kR]
  refine⟨?_,?_,hS.inj⟩
  ·intro b o x h
   unfold HE at h
   split at h
   ·rename_i e;subst e;rw[jl hnew];exact harr o x h
   ·exact hw.cell (hS.mem b o x h)
  ·intro r' k hk
   obtain⟨l,hl,hb⟩:=hS.live r' k hk
   refine⟨l,hl,hb.cV hle (fun _ _ h=>h) (hw.old _ hb.lt) ?_⟩
   intro o x h
   unfold HE at h
   rw[if_neg (Nat.ne_of_lt hb.lt)]at h
   exact hb.frozen o x h
 ·rw[kR]
  refine⟨hw.os,hw.tape,hw.output,by rw[hw.heap];simp,fun b hb _=>hw.old b hb,hle,fun _ _ h=>h,fun r' k l h h' => .inr ⟨r',k,l,h,h',rfl⟩,?_⟩
  intro b o x h
  unfold HE at h
  split at h
  ·rename_i e;exact .inr (.inl (by omega))
  ·exact .inl h
theorem gI.after{R:List Ref}(hR:qS g R=g)(hS:fh M ι g w){x:AV}{bs:List bN}{u:Value}{w':World}(h:gI (kQ M ι g w R) ι g w r x bs u w'):gI M ι g w r x bs u w':=by
 obtain⟨_,hF⟩:=vm (R:=R) hS
 rw[hR]at hF
 obtain⟨M',ι',h1,h2,h3,h4⟩:=h
 exact⟨M',ι',h1,h2,hF.trans h3,h4⟩
theorem E8(hS:fh M ι g w){vs ws:List (Nat × AV)}(h:eT g vs=some ws){qs:List (Nat × Value)}(hl:vs.length=qs.length)
 (hp : ∀(i:Nat) p q,vs[i]?=some p→qs[i]?=some q→p.1=q.1∧VR M ι p.2 q.2) :
 ws.length=qs.length ∧∀(i:Nat) p q,ws[i]?=some p→qs[i]?=some q→p.1=q.1∧VR (kQ M ι g w (ck g (vs.map (·.2)))) ed p.2 q.2:=by
 unfold eT at h
 refine⟨by rw[gY h,hl],?_⟩
 intro i p q hpi hqi
 obtain⟨⟨k,x⟩,hx,hf⟩:=nM h i p hpi
 simp only[Option.map_eq_some_iff]at hf
 obtain⟨y,hy,rfl⟩:=hf
 obtain⟨h1,h2⟩:=hp i _ q hx hqi
 refine⟨h1,xR hS depth x y q.2 hy ?_ h2⟩
 intro r hr
 simp only[ck,List.mem_flatMap,List.mem_map]
 exact⟨x,⟨(k,x),List.mem_of_getElem? hx,rfl⟩,hr⟩
theorem FO{z:Nat} : ∀(ws:List (Nat × AV)) (qs:List (Nat × Value)) (es es':List AV) (us:Array Value),fZ es ws=some es'→Row M z es us.toList →
 ws.length=qs.length→(∀(i:Nat) p q,ws[i]?=some p→qs[i]?=some q→p.1=q.1∧VR M ed p.2 q.2)→(∀p∈ws,p.2.cells.length=z∧p.2.cells.all AV.one=true) →
 es'.length=es.length ∧∃us',Instr.fill (fun i=>some (i * z,z)) us qs=some us'∧Row M z es' us'.toList:=by
 intro ws
 induction ws with
 | nil =>
  intro qs es es' us h hrow hl hp hz
  simp[fZ]at h
  subst h
  cases qs with
  | nil=>exact⟨rfl,us,rfl,hrow⟩
  | cons q qs=>simp at hl
 | cons p ws ih =>
  intro qs es es' us h hrow hl hp hz
  cases qs with
  | nil=>simp at hl
  | cons q qs =>
   obtain⟨i,v⟩:=p
   obtain⟨i',u⟩:=q
   obtain⟨h1,h2⟩:=hp 0 _ _ rfl rfl
   simp only at h1 h2
   subst h1
   simp only[fZ]at h
   split at h
   ·rename_i hi
    obtain⟨hvl,hvo⟩:=hz _ (List.mem_cons_self ..)
    simp only at hvl hvo
    have hcs:=h2.cells
    have hus:u.cells.size=z:=by have:=hcs.1;simp at this;omega
    have hsz:us.size=es.length * z:=by have:=hrow.len;simpa using this
    have hle:i * z+z≤us.size:=by
     have:(i+1) * z≤es.length * z:=Nat.mul_le_mul_right _ hi
     rw[Nat.add_mul]at this
     omega
    have hput:=HO (i * z) u.cells.toList 0 us (by simp;omega)
    have hfold:u.cells.zipIdx.foldl (fun cs (p:Value × Nat)=>cs.setIfInBounds (i * z+p.2) p.1) us=cz us (i * z) u.cells.toList:=by
     rw[Nat.add_zero]at hput
     rw[←hput,←Array.foldl_toList,Array.toList_zipIdx]
    have hone : ∀x∈u.cells.toList,x.oneCell'=true:=by
     intro x hx
     obtain⟨j,hj,hjx⟩:=List.getElem_of_mem hx
     have hj':j<v.cells.length:=by rw[hcs.1];exact hj
     have:=hcs.2 j _ x (List.getElem?_eq_getElem hj') (by rw[←hjx];exact List.getElem?_eq_getElem hj)
     exact this.one (by simp only[List.all_eq_true]at hvo;exact hvo _ (List.getElem_mem hj'))
    have hrow':Row M z (es.set i v) (cz us (i * z) u.cells.toList).toList:=by
     refine⟨?_,?_,?_,?_⟩
     ·simp only[Array.length_toList,List.length_set]
      rw[gq (by simp;omega),hsz]
     ·intro e he
      rcases List.mem_or_eq_of_mem_set he with h | h
      ·exact hrow.FR e h
      ·rw[h];exact hvl
     ·intro x hx
      simp only[cz,List.mem_append]at hx
      rcases hx with (h | h) | h
      ·exact hrow.one x (List.mem_of_mem_take h)
      ·exact hone x h
      ·exact hrow.one x (List.mem_of_mem_drop h)
     ·intro k j e x he hx
      have hkl:k<es.length:=by have:=(List.getElem?_eq_some_iff.1 he).1;simpa using this
      rw[Array.getElem?_toList,fH (by simp;omega)]
      by_cases hk:i=k
      ·subst hk
       rw[List.getElem?_set_self hi]at he
       injection he with he
       subst he
       have hj:j<v.cells.length:=(List.getElem?_eq_some_iff.1 hx).1
       rw[if_pos ⟨by omega,by simp;omega⟩,Nat.add_sub_cancel_left]
       have hju:j<u.cells.toList.length:=by rw[←hcs.1];exact hj
       exact⟨u.cells.toList[j],List.getElem?_eq_getElem hju,hcs.2 j x _ hx (List.getElem?_eq_getElem hju)⟩
      ·rw[List.getElem?_set_ne hk]at he
       have hj:j<z:=by
        rw[←hrow.FR e (List.mem_of_getElem? he)]
        exact(List.getElem?_eq_some_iff.1 hx).1
       obtain⟨v',hv',hvr⟩:=hrow.vr k j e x he hx
       rw[if_neg]
       ·exact⟨v',by simpa using hv',hvr⟩
       ·simp only[Array.length_toList,hus]
        rcases Nat.lt_or_gt_of_ne hk with h | h
        ·have:(i+1) * z≤k * z:=Nat.mul_le_mul_right _ h
         rw[Nat.add_mul]at this
         omega
        ·have:(k+1) * z≤i * z:=Nat.mul_le_mul_right _ h
         rw[Nat.add_mul]at this
         omega
    obtain⟨h3,us',h4,h5⟩:=ih qs (es.set i v) es' (cz us (i * z) u.cells.toList) h hrow' (by simpa using hl) (fun k p q hp' hq'=>hp (k+1) p q hp' hq') (fun p hp'=>hz p (List.mem_cons_of_mem _ hp'))
    refine⟨by rw[h3];simp,us',?_,h5⟩
    simp only[Instr.fill]
    rw[if_neg (by simp;omega)]
    rw[←h4,←hfold]
   ·cases h
theorem vp{zs:Array Value}{n:Nat}(hz:0<zs.size):((Array.range (n * zs.size)).map (zs[· % zs.size]!)).toList=(List.replicate n zs.toList).flatten:=by
 apply List.ext_getElem?
 intro k
 rcases Nat.lt_or_ge k (n * zs.size)with hk | hk
 ·have hk':k % zs.size<zs.size:=Nat.mod_lt _ hz
  have hd:k / zs.size<n:=(Nat.div_lt_iff_lt_mul hz).2 hk
  have e1:((Array.range (n * zs.size)).map (zs[· % zs.size]!)).toList[k]?=some zs[k % zs.size]:=by
   simp[hk,hk',getElem!_pos]
  rw[e1]
  have : ∀n k,k<n * zs.size→(List.replicate n zs.toList).flatten[k]?=zs.toList[k % zs.size]?:=by
   intro n
   induction n with
   | zero=>intro k hk;simp at hk
   | succ n ih =>
    intro k hk
    rw[List.replicate_succ,List.flatten_cons]
    rcases Nat.lt_or_ge k zs.size with h | h
    ·rw[List.getElem?_append_left (by simpa using h),Nat.mod_eq_of_lt h]
    ·rw[List.getElem?_append_right (by simpa using h),Array.length_toList,ih (k - zs.size) (by rw[Nat.add_mul]at hk;omega)]
     congr 1
     rw[←Nat.mod_eq_sub_mod h]
  rw[this n k hk]
  simp[hk']
 ·rw[List.getElem?_eq_none (by simpa using hk),List.getElem?_eq_none (by simpa using hk)]
theorem Cf{t:TypeId}{n:Nat}(hS:fh M ι g w){vs:List (Nat × AV)}{qs:Array (Nat × Value)}{b:bN}(h:mkSlice P g t n vs=some b)(hl:vs.length=qs.toList.length)
 (hp : ∀(i:Nat) p q,vs[i]?=some p→qs.toList[i]?=some q→p.1=q.1∧VR M ι p.2 q.2) :
 b.arr=true∧b.jb=false∧b.es.length=n ∧∃e arr,(Instr.buildSlice t n qs).run P w = .ok (.slice (some ⟨w.heap.size,0,none⟩) n n) (w.alloc (.cells arr e))∧arr.size=n * b.esz ∧
  Row (kQ M ι g w (ck g (vs.map (·.2)))) b.esz b.es arr.toList:=by
 unfold mkSlice at h
 split at h
 ·cases h
 ·rename_i e he
  split at h
  ·rename_i ws z s hws hz hs
   obtain⟨hc,h⟩:=Option.ite_none_right_eq_some.1 h
   obtain⟨h0,h1,h2,h3,h4⟩:=hc
   simp only[Option.map_eq_some_iff]at h
   obtain⟨es,hes,rfl⟩:=h
   obtain⟨it,u,hit,hiz,hu⟩:=qh hz
   obtain⟨ie,hie,hsz⟩:=tl hs
   rw[hit]at hie;cases hie
   have hzv:=gT (M:=kQ M ι g w (ck g (vs.map (·.2)))) (ι:=ed) hu
   have huz:u.cells.size=s:=by have:=hzv.cells.1;simp at this;omega
   have hrow0:=Row.replicate hzv h2 h3 n
   obtain⟨h5,h6⟩:=E8 hS hws hl hp
   have hrow1:Row (kQ M ι g w (ck g (vs.map (·.2)))) s (List.replicate n z) ((Array.range (n * s)).map (u.cells[· % u.cells.size]!)).toList:=by
    have:=vp (zs:=u.cells) (n:=n) (by omega)
    rw[huz]at this
    rw[huz,this]
    exact hrow0
   obtain⟨h7,us',h8,h9⟩:=FO ws qs.toList (List.replicate n z) es _ hes hrow1 h5 h6 (by
    intro p hp'
    simp only[List.all_eq_true,Bool.and_eq_true,decide_eq_true_eq]at h4
    exact⟨(h4 p hp').1,by simp only[List.all_eq_true];exact(h4 p hp').2⟩)
   refine⟨rfl,rfl,by simpa using h7,e,us',?_,?_,h9⟩
   ·have hle : ¬16777216<n * s:=by omega
    have hfill:Instr.fill (fun i=>some (i * s,s)) ((Array.range (n * s)).map ((if n * s=0 then #[] else u.cells)[· % (if n * s=0 then #[] else u.cells).size]!)) qs.toList=some us':=by
     rw[←h8]
     congr 1
     by_cases h:n * s=0
     ·simp[h]
     ·rw[if_neg h]
    simp only[Instr.buildSlice,Sem.run_bind,bH (fS he),Result.andThen_ok,cO hs,gt_iff_lt]
    rw[if_neg hle]
    by_cases h0':n * s=0
    ·rw[if_pos h0']at hfill ⊢
     simp only[pure_bind]
     rw[hfill]
     simp[newRow]
    ·rw[if_neg h0']at hfill ⊢
     simp only[Sem.run_bind,zeroValue,typeInfo,hit,hiz,run_program,Result.andThen_ok,Sem.run_pure,hfill]
     simp[newRow]
   ·rw[←Array.length_toList,h9.len,h7]
    simp
  ·cases h
theorem AD{P:Program}{g:dk}{t:TypeId}{n:Nat}{vs:List (Nat × AV)}{b:bN}(h:mkSlice P g t n vs=some b):0<b.esz:=by
 unfold mkSlice at h
 split at h
 ·cases h
 ·split at h
  ·obtain⟨hc,h⟩:=Option.ite_none_right_eq_some.1 h
   obtain⟨_,_,rfl⟩:=Option.map_eq_some_iff.1 h
   exact hc.1
  ·cases h
theorem B7(hS:fh M ι g w)(hr:r.k=0)(hq:ι r=none){draw:Bool}{t:TypeId}{n:Nat}{vs:List (Nat × AV)}{qs:Array (Nat × Value)}{x:AV}{bs:List bN}
 (h:fG P draw g r t n (some vs)=some (x,bs)) (hl:vs.length=qs.toList.length)
 (hp : ∀(i:Nat) p q,vs[i]?=some p→qs.toList[i]?=some q→p.1=q.1∧VR M ι p.2 q.2) :
 ∃u w',(Instr.buildSlice t n qs).run P w = .ok u w'∧gI M ι g w r x bs u w':=by
 simp only[fG]at h
 obtain⟨hfr,h⟩:=Option.ite_none_right_eq_some.1 h
 simp only[Option.map_eq_some_iff]at h
 obtain⟨b,hb,h⟩:=h
 obtain⟨h1,h2,h3,e,arr,h4,h5,h6⟩:=Cf hS hb hl hp
 have hfz:=HN hfr
 obtain⟨hS',_⟩:=vm (R:=ck g (vs.map (·.2))) hS
 rw[hfz]at hS'
 have hgrew:Aq w (w.alloc (.cells arr e)) (.cells arr e (0,0)):=⟨rfl,rfl,rfl,rfl⟩
 refine⟨_,_,h4,gI.after hfz hS ?_⟩
 have hbb:b=⟨b.esz,b.es,true,false⟩:=by cases b;simp_all
 cases draw with
 | true =>
  simp at h
  obtain⟨rfl,rfl⟩:=h
  have:=Ms (r:=r) hS' hgrew h6 (fun k u hu=>by simpa using hu) (c:=n) (by omega) (cap:=some n) (by intro k hk;cases hk;rfl)
  rw[h3]at this
  exact this
 | false =>
  simp at h
  obtain⟨rfl,rfl⟩:=h
  have:=s8 hS' hr hq hgrew h6 (fun k u hu=>by simpa using hu) (n:=n) (c:=n) h5 (zw.zero _ _) (by omega) (Nat.le_refl _) (cap:=some n) (by intro k hk;cases hk;rfl)
  rw[h3,←hbb]at this
  exact this (AD hb)
end
end Go.Ab
namespace Go.Ab
section
variable{P:Program}{M:Mem}{ι:Map}{g:dk}{w:World}{r:Ref}
inductive App (P:Program) (w:World) (t':Option TypeId) (x:Value) (e z:Nat) (n:Nat) (us:List Value):Prop
 | src {d:TypeDesc} (ht:t'.bind P.underlying=some d) (hd : ∀k,d ≠ .int k) (hl : ∀w':World,(Builtin.lenOf x).run P w' = .ok n w')
  (hf : ∀w':World,w'.heap=w.heap→(Builtin.firstCells z n x).run P w' = .ok us.toArray w')
 | zeros {k kx:IntKind} (u:Value) (ht:t'.bind P.underlying=some (.int k)) (hx:x = .int kx n) (hn:n≤cg) (hu : ∀w':World,(zeroValue e).run P w' = .ok u w') (hz:u.cells.size=z)
  (hus:us=(List.replicate n u.cells.toList).flatten)
theorem zB{n:Nat}(h:n≤cg):IntKind.i64.wrap (n:Int)=n:=by
 unfold cg at h
 exact IntWalk.i64_in n ⟨by omega,by omega⟩
theorem As{u:Value}{n:Nat}:(Builtin.zeroCells u.cells n).toList=(List.replicate n u.cells.toList).flatten:=by
 unfold Builtin.zeroCells
 rcases Nat.eq_zero_or_pos u.cells.size with h | h
 ·have:u.cells.toList=[]:=by simpa using Array.eq_empty_of_size_eq_zero h
  simp[h,this]
 ·exact vp h
theorem A2{ts:Array TypeId}{t:TypeId}{ty:TypeId}(ht:ts[0]?=some t){e z by':Nat}(hu:P.underlying t=some (.slice e))(hz:aU P e=some z)(hb:lA P e=some by')
 {a:Option Addr} {len c:Nat} (hlc:len≤c) {x:Value} (hA:App P w ts[1]? x e z 0 []) :
 (Builtin.append_ ts ty #[.slice a len c,x]).run P w = .ok (.slice a len c) w:=by
 simp only[lA,Option.map_eq_some_iff]at hb
 obtain⟨i,hi,rfl⟩:=hb
 cases hA with
 | src hd hm hl hf =>
  rename_i d
  simp only[Option.bind_eq_some_iff]at hd
  obtain⟨t',ht',hd⟩:=hd
  have hf':=hf w rfl
  have hmt:(match d with | .int _=>true | _=>false)=false:=by cases d<;>first | rfl | exact absurd rfl (hm _)
  cases a<;>simp[hmt,Builtin.append_,ht,ht',bH hu,bH hd,cO hz,hl,hlc,hf',storeCells]
 | zeros u hd hx hn hu' hz' hus =>
  rename_i k kx
  subst hx
  simp only[Option.bind_eq_some_iff]at hd
  obtain⟨t',ht',hd⟩:=hd
  have hw:IntKind.i64.wrap 0=0:=by simpa using zB hn
  cases a<;>simp[Builtin.append_,ht,ht',bH hu,bH hd,cO hz,asInt,asIntOf,hw,typeInfo,hi,hlc,storeCells]
theorem ql{ts:Array TypeId}{t:TypeId}{ty:TypeId}(ht:ts[0]?=some t){e z by':Nat}(hu:P.underlying t=some (.slice e))(hz:aU P e=some z)(hb:lA P e=some by')
 {zv:Value} (hzv : ∀w':World,(zeroValue e).run P w' = .ok zv w') (hzs:zv.cells.size=z)
 {a:Option Addr} {len c n:Nat} {x:Value} {olds us:List Value} (hold : ∀w':World,w'.heap=w.heap→(Builtin.firstCells z len (.slice a len c)).run P w' = .ok olds.toArray w')
 (hA:App P w ts[1]? x e z n us) (hgt:c<len+n) (hroom:(len+n) * by'≤cg) (hpos:0<by') :
 ∃cap w',len+n≤cap∧(Builtin.append_ ts ty #[.slice a len c,x]).run P w = .ok (.slice (some ⟨w.heap.size,0,none⟩) (len+n) cap) w' ∧
  Aq w w' (.cells (olds.toArray++us.toArray++Builtin.zeroCells zv.cells (cap - (len+n))) e (0,0)):=by
 simp only[lA,Option.map_eq_some_iff]at hb
 obtain⟨i,hi,rfl⟩:=hb
 have hn63 : ¬(9223372036854775807<(len:Int)+(n:Int)):=by
  have:(len+n) * 1≤(len+n) * i.bytes:=Nat.mul_le_mul_left _ hpos
  unfold cg at hroom
  omega
 have h48 : ¬(281474976710656<Builtin.nextslicecap (len+n) c * i.bytes):=by
  have:=growslice_fits (need:=len+n) (old:=c) (bytes:=i.bytes) hgt (by unfold cg at hroom;exact hroom)
  omega
 have hno : ¬(len+n≤c):=by omega
 have holds:=hold w.drew rfl
 obtain⟨A,hA0⟩ : ∃A,A=olds.toArray:=⟨_,rfl⟩
 rw[←hA0]at holds ⊢
 refine⟨grownCap w (len+n) c e,w.drew.alloc (.cells (A++us.toArray++Builtin.zeroCells zv.cells (grownCap w (len+n) c e - (len+n))) e (0,0)),grownCap_ge _ _ _ _,?_,⟨rfl,rfl,rfl,rfl⟩⟩
 cases hA with
 | src hd hm hl hf =>
  rename_i d
  simp only[Option.bind_eq_some_iff]at hd
  obtain⟨t',ht',hd⟩:=hd
  have hf':=hf w.drew rfl
  obtain⟨B,hB0⟩ : ∃B,B=us.toArray:=⟨_,rfl⟩
  rw[←hB0]at hf' ⊢
  have hmt:(match d with | .int _=>true | _=>false)=false:=by cases d<;>first | rfl | exact absurd rfl (hm _)
  simp[hmt,Builtin.append_,ht,ht',bH hu,bH hd,cO hz,hl,hno,hf',holds,hn63,h48,typeInfo,hi,Question.forced,hzv,newRow,grownCap]
 | zeros u hd hx hn hu' hz' hus =>
  rename_i k kx
  subst hx
  simp only[Option.bind_eq_some_iff]at hd
  obtain⟨t',ht',hd⟩:=hd
  have hw:=zB hn
  have e1:u=zv:=by
   have h1:=hu' w
   rw[hzv w]at h1
   cases h1
   rfl
  subst e1
  have hnb : ¬((n:Int)<0):=by omega
  have hmk : ¬(281474976710656<(n:Int) * (i.bytes:Int)):=by
   have h1:n * i.bytes≤(len+n) * i.bytes:=Nat.mul_le_mul_right _ (by omega)
   unfold cg at hroom
   have h2:((n * i.bytes:Nat):Int)=(n:Int) * (i.bytes:Int):=by simp
   omega
  have hus':us.toArray=if n * z=0 then #[] else Builtin.zeroCells u.cells n:=by
   rw[hus,←As]
   by_cases h:n * z=0
   ·rw[if_pos h]
    have:(Builtin.zeroCells u.cells n).size=0:=by rw[size_zeroCells,hz',h]
    rw[Array.toArray_toList]
    exact Array.eq_empty_of_size_eq_zero this
   ·rw[if_neg h]
  rw[hus']
  by_cases h:n * z=0
  ·simp[Builtin.append_,ht,ht',bH hu,bH hd,cO hz,asInt,asIntOf,hw,hnb,hmk,typeInfo,hi,hno,hn63,h48,h,holds,Question.forced,hzv,newRow,grownCap]
  ·simp[Builtin.append_,ht,ht',bH hu,bH hd,cO hz,asInt,asIntOf,hw,hnb,hmk,typeInfo,hi,hno,hn63,h48,h,holds,Question.forced,hzv,newRow,grownCap]
theorem wL{ts:Array TypeId}{t:TypeId}{ty:TypeId}(ht:ts[0]?=some t){e z by':Nat}(hu:P.underlying t=some (.slice e))(hz:aU P e=some z)(hb:lA P e=some by')
 {b o len c n:Nat} {x:Value} {us:List Value} (hA:App P w ts[1]? x e z n us) (hle:len+n≤c) (hroom:(len+n) * by'≤cg)
 {arr:Array Value} {T:TypeId} {fz:Nat × Nat} (hw:w.heap[b]?=some (.cells arr T fz)) (hs:o+len * z+us.length≤arr.size) (hfz : ∀j,j<arr.size →¬(fz.1≤j∧(j<fz.2∨fz.2<fz.1))) (h1 : ∀u∈us,u.oneCell'=true) :
 (Builtin.append_ ts ty #[.slice (some ⟨b,o,none⟩) len c,x]).run P w = .ok (.slice (some ⟨b,o,none⟩) (len+n) c) (bW w b (.cells (cz arr (o+len * z) us) T fz)):=by
 simp only[lA,Option.map_eq_some_iff]at hb
 obtain⟨i,hi,rfl⟩:=hb
 have hst:=kp (P:=P) (o+len * z) us 0 arr w hw (by simpa using hs) hfz h1
 rw[Nat.add_zero]at hst
 cases hA with
 | src hd hm hl hf =>
  rename_i d
  simp only[Option.bind_eq_some_iff]at hd
  obtain⟨t',ht',hd⟩:=hd
  have hf':=hf w rfl
  have hmt:(match d with | .int _=>true | _=>false)=false:=by cases d<;>first | rfl | exact absurd rfl (hm _)
  simp[hmt,Builtin.append_,ht,ht',bH hu,bH hd,cO hz,hl,hle,hf',fW,hst]
 | zeros u hd hx hn hu' hz' hus =>
  rename_i k kx
  subst hx
  simp only[Option.bind_eq_some_iff]at hd
  obtain⟨t',ht',hd⟩:=hd
  have hw:=zB hn
  have hnb : ¬((n:Int)<0):=by omega
  have hmk : ¬(281474976710656<(n:Int) * (i.bytes:Int)):=by
   have h1:n * i.bytes≤(len+n) * i.bytes:=Nat.mul_le_mul_right _ (by omega)
   unfold cg at hroom
   have h2:((n * i.bytes:Nat):Int)=(n:Int) * (i.bytes:Int):=by simp
   omega
  have hus':us=(if n * z=0 then #[] else Builtin.zeroCells u.cells n).toList:=by
   rw[hus,←As]
   by_cases h:n * z=0
   ·rw[if_pos h]
    have:(Builtin.zeroCells u.cells n).size=0:=by rw[size_zeroCells,hz',h]
    rw[Array.eq_empty_of_size_eq_zero this]
   ·rw[if_neg h]
  by_cases h:n * z=0
  ·rw[if_pos h]at hus'
   simp only[Array.toList_empty]at hus'
   rw[hus']at hst ⊢
   simp[Builtin.append_,ht,ht',bH hu,bH hd,cO hz,asInt,asIntOf,hw,hnb,hmk,typeInfo,hi,hle,h,fW,hst]
  ·rw[if_neg h]at hus'
   rw[hus']at hst ⊢
   simp[Builtin.append_,ht,ht',bH hu,bH hd,cO hz,asInt,asIntOf,hw,hnb,hmk,typeInfo,hi,hle,h,hu',fW,hst]
end
end Go.Ab
namespace Go.Ab
section
variable{P:Program}{M:Mem}{ι:Map}{g:dk}{w:World}{r:Ref}
theorem LC{t:TypeId}{y z x:AV}{u0 u1:Value}(hy:VR M ι y u0)(hz:VR M ι z u1){bs:List bN}(h:nL P t (some y) (some z)=some (x,bs)) :
 bs=[] ∧∃u,(Instr.index t u0 u1).run P w = .ok u w∧VR M ι x u:=by
 simp only[nL,Option.bind_some]at h
 split at h
 ·rename_i k cs hk hcs
  injection hcs with hcs
  subst hcs
  obtain⟨ki,rfl⟩:=sN hz hk
  split at h
  ·rename_i n e ha
   split at h
   ·rename_i s hs
    obtain⟨hc,h⟩:=Option.ite_none_right_eq_some.1 h
    simp only[cF,Option.map_eq_some_iff]at h
    obtain⟨y',hy',he⟩:=h
    cases he
    obtain⟨vs,rfl,hvs⟩:=hy.KY
    obtain⟨u,hu,hv⟩:=Kq (w:=w) hvs hy'
    exact⟨rfl,u,by simp[Instr.index,asIntOf,bH (Bj ha),hc.1,hc.2,cO hs,hu],hv⟩
   ·cases h
  ·cases h
 ·rename_i k s hk hs
  injection hs with hs
  subst hs
  obtain⟨ki,rfl⟩:=sN hz hk
  cases hy
  obtain⟨hc,h⟩:=Option.ite_none_right_eq_some.1 h
  simp only[cF,Option.map_eq_some_iff]at h
  obtain⟨y',⟨b,hb,rfl⟩,he⟩:=h
  cases he
  refine⟨rfl,.int .u8 b.toNat,?_,.v rfl⟩
  have h0:=hc.2
  simp[Instr.index,asIntOf,bH (pn hc.1),h0,hb]
 ·cases h
theorem NK{f:Fn}{a b:List AV}{ua ub:List Value}(ha:jC M ι a ua)(hb:jC M ι b ub){x:AV}{bs:List bN}(h:sG f (some a) (some b)=some (x,bs)) :
 bs=[]∧VR M ι x (.func f ua.toArray ub.toArray):=by
 simp only[sG,Option.some.injEq,Prod.mk.injEq]at h
 obtain⟨rfl,rfl⟩:=h
 exact⟨rfl,.fn (by simpa using ha.1) (by simpa using hb.1) (fun i c u hc hu=>ha.2 i c u hc (by simpa using hu)) (fun i c u hc hu=>hb.2 i c u hc (by simpa using hu))⟩
theorem ND{tm:List AV}{a:Act}(h:TR M ι tm a){c x y:Operand}{z:AV}{bs:List bN}(hq:B4 (aZ tm) c x y=some (z,bs)) :
 bs=[] ∧∃u,(do pure (if ←asBool (a.eval c) then a.eval x else a.eval y):Sem Value).run P w = .ok u w∧VR M ι z u:=by
 unfold B4 at hq
 split at hq
 ·rename_i hb
  simp only[Option.bind_eq_some_iff]at hb
  obtain⟨cv,hc,hcb⟩:=hb
  have:=wA (bn h hc) hcb
  simp only[cF,Option.map_eq_some_iff]at hq
  obtain⟨z',hz,he⟩:=hq
  cases he
  exact⟨rfl,_,by simp[this,asBool],bn h hz⟩
 ·rename_i hb
  simp only[Option.bind_eq_some_iff]at hb
  obtain⟨cv,hc,hcb⟩:=hb
  have:=wA (bn h hc) hcb
  simp only[cF,Option.map_eq_some_iff]at hq
  obtain⟨z',hz,he⟩:=hq
  cases he
  exact⟨rfl,_,by simp[this,asBool],bn h hz⟩
 ·cases hq
theorem Qt{ts:Array TypeId}{ty:TypeId}{y x:AV}{u0:Value}(hy:VR M ι y u0){bs:List bN}(h:S4 P ts[0]? y=some (x,bs)) :
 bs=[] ∧∃u,(Builtin.cap_ ts ty #[u0]).run P w = .ok u w∧VR M ι x u:=by
 unfold S4 at h
 split at h
 ·rename_i e he
  obtain⟨t,ht,he⟩:=Option.bind_eq_some_iff.1 he
  cases h
  cases hy
  exact⟨rfl,goInt 0,by simp[Builtin.cap_,ht,bH (fS he)],.v rfl⟩
 ·rename_i e z es k he
  obtain⟨t,ht,he⟩:=Option.bind_eq_some_iff.1 he
  cases h
  cases hy with | cw cell hs hc hk hm hee hh =>
  rename_i a c
  have:=hk k rfl
  subst this
  exact⟨rfl,goInt c,by simp[Builtin.cap_,ht,bH (fS he)],.v rfl⟩
 ·rename_i e r off len k he
  obtain⟨t,ht,he⟩:=Option.bind_eq_some_iff.1 he
  cases h
  cases hy with | cM hr hb hs ha hc hn hk hzl =>
  rename_i l a c
  have:=hk k rfl
  subst this
  exact⟨rfl,goInt c,by simp[Builtin.cap_,ht,bH (fS he)],.v rfl⟩
 ·cases h
theorem Qr{ts:Array TypeId}{ty:TypeId}{y x:AV}{u0:Value}(hy:VR M ι y u0){bs:List bN}(h:DD P ts[0]? y=some (x,bs)) :
 bs=[] ∧∃u,(Builtin.len_ ts ty #[u0]).run P w = .ok u w∧VR M ι x u:=by
 unfold DD at h
 split at h
 ·cases h
 ·rename_i t ht
  split at h
  ·rename_i n e ha
   injection h with h
   injection h with h1 h2
   subst h1;subst h2
   exact⟨rfl,goInt n,by simp[Builtin.len_,ht,bH (Bj ha)],.v rfl⟩
  ·split at h
   ·rename_i hs
    split at h
    ·injection h with h
     injection h with h1 h2
     subst h1;subst h2
     cases hy
     exact⟨rfl,goInt _,by simp[Builtin.len_,ht,bH (pn hs)],.v rfl⟩
    ·cases h
   ·obtain⟨hs,h⟩:=Option.ite_none_right_eq_some.1 h
    obtain⟨e,he⟩:=Option.isSome_iff_exists.1 hs
    have hu:=fS he
    simp only[Option.map_eq_some_iff]at h
    obtain⟨n,hn,h⟩:=h
    injection h with h1 h2
    subst h1;subst h2
    refine⟨rfl,goInt n,?_,.v rfl⟩
    unfold rq at hn
    split at hn
    ·injection hn with hn;subst hn;cases hy;simp[Builtin.len_,ht,bH hu]
    ·injection hn with hn;subst hn;cases hy;simp[Builtin.len_,ht,bH hu]
    ·injection hn with hn;subst hn;cases hy;simp[Builtin.len_,ht,bH hu]
    ·cases hn
theorem E1{x:AV}{u:Value}{b:UInt8}(hx:VR M ι x u)(h:byteOf x=some b) : ∃n:Int,u = .int .u8 n∧b=UInt8.ofNat n.toNat:=by
 unfold byteOf at h
 split at h
 ·injection h with h
  cases hx
  exact⟨_,rfl,h.symm⟩
 ·cases h
theorem JM : ∀(ns:List Int)(s:ByteArray),ns.foldl (fun r n=>r.push (UInt8.ofNat n.toNat)) s=⟨s.data++(ns.map fun n=>UInt8.ofNat n.toNat).toArray⟩:=by
 intro ns
 induction ns with
 | nil=>intro s;simp
 | cons n ns ih =>
  intro s
  rw[List.foldl_cons,ih]
  simp[ByteArray.push]
theorem G4(hS:fh M ι g w)(hr:r.k=0)(hq:ι r=none){src dst:TypeId}{y x:AV}{u0:Value}(hy:VR M ι y u0){bs:List bN}(h:cW P g r src dst (some y)=some (x,bs)) :
 ∃u w',(Go.convert src dst u0).run P w = .ok u w'∧gI M ι g w r x bs u w':=by
 unfold cW at h
 split at h
 ·rename_i e
  injection e with e
  subst e
  cases hy
  obtain⟨hc,h⟩:=Option.ite_none_right_eq_some.1 h
  simp only[Bool.and_eq_true]at hc
  obtain⟨e,he1,he2⟩:=nR hc.1
  injection h with h
  injection h with h1 h2
  subst h1;subst h2
  exact⟨.string .empty,w,by rw[run_convert_bytes_string w src dst e none 0 0 he1 he2 (pn hc.2)];rfl,gI.same hS (.v rfl)⟩
 ·rename_i s e
  injection e with e
  subst e
  cases hy
  split at h
  ·rename_i hc
   simp only[Bool.and_eq_true]at hc
   injection h with h
   injection h with h1 h2
   subst h1;subst h2
   exact⟨.string s,w,by simp[Go.convert,bH (pn hc.1),bH (pn hc.2)],gI.same hS (.v rfl)⟩
  ·split at h
   ·rename_i hc
    simp only[Bool.and_eq_true]at hc
    obtain⟨hrm,h⟩:=Option.ite_none_right_eq_some.1 h
    injection h with h
    injection h with h1 h2
    subst h1;subst h2
    obtain⟨e,he1,he2⟩:=nR hc.2
    have hrun:=run_bytes_of_string (P:=P) w src dst e s (pn hc.1) he1 he2
    have hcap:=grownCap_ge w s.size 0 e
    have hrow:Row M 1 (s.data.toList.map fun b=>AV.v (.int .u8 b.toNat)) (s.data.toList.map fun b=>Value.int .u8 b.toNat):=by
     refine⟨by simp,?_,?_,?_⟩
     ·intro e he
      simp only[List.mem_map]at he
      obtain⟨b,_,rfl⟩:=he
      rfl
     ·intro x hx
      simp only[List.mem_map]at hx
      obtain⟨b,_,rfl⟩:=hx
      rfl
     ·intro i j e x he hx
      simp only[List.getElem?_map,Option.map_eq_some_iff]at he
      obtain⟨b,hb,rfl⟩:=he
      cases j with
      | succ j=>simp[AV.cells]at hx
      | zero =>
       simp[AV.cells]at hx
       subst hx
       exact⟨.int .u8 b.toNat,by simp[hb],.v rfl⟩
    have hsize:(bytesRow s (grownCap w s.size 0 e)).size=grownCap w s.size 0 e:=by
     have:s.data.size=s.size:=rfl
     simp[bytesRow]
     omega
    have:=s8 hS hr hq (w':=w.drew.alloc (.cells (bytesRow s (grownCap w s.size 0 e)) e ((bytesRow s (grownCap w s.size 0 e)).size,(bytesRow s (grownCap w s.size 0 e)).size+1)))
     ⟨rfl,rfl,rfl,rfl⟩ hrow (by
      intro k u hu
      have hk:=(List.getElem?_eq_some_iff.1 hu).1
      unfold bytesRow
      rw[Array.getElem?_append_left (by simpa using hk)]
      rw[←hu]
      simp) (n:=grownCap w s.size 0 e) (c:=grownCap w s.size 0 e) (by rw[hsize];simp) ⟨by intro o ho h;simp only at h;omega,fun h=>absurd h (by decide)⟩ (by simpa using hcap) (Nat.le_refl _) (cap:=none) (by intro k hk;cases hk) Nat.one_pos
    simp only[List.length_map,Array.length_toList]at this
    exact⟨_,_,hrun,this⟩
   ·cases h
 ·rename_i v hne1 hne2 e
  injection e with e
  subst e
  simp only[cF,Option.map_eq_some_iff,Option.bind_eq_some_iff]at h
  obtain⟨z,⟨u,hu,hz⟩,he⟩:=h
  cases he
  cases hy
  exact⟨u,w,lD hu w,gI.same hS (lE hz)⟩
 ·rename_i y' hne1 hne2 hne3 e
  injection e with e
  subst e
  split at h
  ·rename_i hc
   simp only[Bool.and_eq_true]at hc
   obtain⟨e,he1,he2⟩:=nR hc.1
   split at h
   ·rename_i z es hes
    simp only[Option.map_eq_some_iff]at h
    obtain⟨l,hl,h⟩:=h
    injection h with h1 h2
    subst h1;subst h2
    have hz1:z=1∨es=[]:=by
     cases es with
     | nil=>exact .inr rfl
     | cons e0 es0 =>
      left
      obtain⟨b,_,hb⟩:=gZ hl 0 e0 rfl
      unfold byteOf at hb
      split at hb
      ·rename_i n
       cases hy with
       | cw cell hs hcc' hk hm he hh =>
        simp only[cT,Option.some.injEq,Prod.mk.injEq]at hes
        obtain⟨rfl,rfl⟩:=hes
        have:=he _ (List.mem_cons_self ..)
        simpa [AV.cells] using this.symm
       | cM hr' hb' hs ha hcc' hn hk hzl =>
        rename_i r1 off1 FH cap1 l1 a1 c1
        simp only[cT]at hes
        split at hes
        ·rename_i b1 hb1
         obtain⟨hcc,hes⟩:=Option.ite_none_right_eq_some.1 hes
         injection hes with hes
         injection hes with h3 h4
         have hbk:=hS.at hr' hzl hb1
         have hmem:(AV.v (.int .u8 n))∈b1.es:=by
          have:(AV.v (.int .u8 n))∈(b1.es.drop off1).take FH:=by rw[h4];exact List.mem_cons_self ..
          exact List.mem_of_mem_drop (List.mem_of_mem_take this)
         have:=hbk.cells _ hmem
         rw[←h3,←this]
         rfl
        ·cases hes
       | v hv=>exact absurd rfl (hne3 _)
       | _=>simp[cT]at hes
      ·cases hb
    have hlen:=gY hl
    obtain⟨a,n,c,rfl,hn,cellat⟩ : ∃a n c,u0 = .slice (some a) n c∧es.length=n ∧∀j,j<n →∃b:Int,w.cell? (a.add j)=some (.int .u8 b)∧l[j]?=some (UInt8.ofNat b.toNat):=by
     rcases hz1 with rfl | rfl
     ·obtain⟨us,hsrc⟩:=lJ (P:=P) hS hy (Nat.one_pos) hes
      cases hy with
      | cw cell hs hc hk hm he hh =>
       rename_i esz es' cap a c
       simp only[cT,Option.some.injEq,Prod.mk.injEq]at hes
       obtain⟨rfl,rfl⟩:=hes
       refine⟨a,es'.length,c,rfl,rfl,?_⟩
       intro j hj
       have hej:=List.getElem?_eq_getElem hj
       obtain⟨b,hb1,hb2⟩:=gZ hl j _ hej
       have hcl:=he _ (List.getElem_mem hj)
       have hbv:es'[j].cells=[es'[j]]:=by
        unfold byteOf at hb2
        split at hb2
        ·rename_i heq;rw[heq];rfl
        ·cases hb2
       have hvr:=hh j 0 _ _ hej (show es'[j].cells[0]?=some es'[j] by rw[hbv];rfl)
       obtain⟨nb,hnb,rfl⟩:=E1 hvr hb2
       refine⟨nb,?_,hb1⟩
       have:=hS.mem _ _ _ (hm j 0 hj (by omega)).1
       rw[jo (hs.resolve_right (by intro e;subst e;simp at hj)),fW]
       rw[hnb]at this
       simpa using this
      | cM hr' hb' hs ha hc hn hk hzl =>
       rename_i r1 off len cap l1 a c
       simp only[cT]at hes
       split at hes
       ·rename_i b1 hb1
        obtain⟨hcc,hes⟩:=Option.ite_none_right_eq_some.1 hes
        injection hes with hes
        injection hes with h3 h4
        subst h4
        have hbk:=hS.at hr' hzl hb1
        obtain⟨g1,g2⟩:=getElems b1.es off len hcc.2
        refine⟨a,len,c,rfl,g1,?_⟩
        intro j hj
        have hej:((b1.es.drop off).take len)[j]?=some b1.es[off+j]:=by rw[g2 j hj];exact List.getElem?_eq_getElem (by omega)
        obtain⟨b,hb1',hb2⟩:=gZ hl j _ hej
        have hcl:=hbk.cells _ (List.getElem_mem (by omega:off+j<b1.es.length))
        have hbv:b1.es[off+j].cells=[b1.es[off+j]]:=by
         unfold byteOf at hb2
         split at hb2
         ·rename_i heq;rw[heq];rfl
         ·cases hb2
        obtain⟨u,hu1,hu2,hu3⟩:=hbk.cell (off+j) (List.getElem?_eq_getElem (by omega)) 0 b1.es[off+j] (by rw[hbv];rfl)
        obtain⟨nb,hnb,rfl⟩:=E1 hu3 hb2
        refine⟨nb,?_,hb1'⟩
        have hoff:a.off=off * l1.esz:=by
         rcases ha with h | h
         ·omega
         ·exact h
        rw[jo hs,fW,hb',hoff,hbk.esz,h3]
        rw[h3,hnb]at hu1
        simp only[Nat.mul_one,Nat.add_zero]at hu1 ⊢
        exact hu1
       ·cases hes
      | v hv=>exact absurd rfl (hne3 _)
      | _=>simp[cT]at hes
     ·cases hy with
      | cw cell hs hc hk hm he hh =>
       rename_i esz es' cap a c
       simp only[cT,Option.some.injEq,Prod.mk.injEq]at hes
       obtain⟨rfl,rfl⟩:=hes
       exact⟨a,0,c,rfl,rfl,fun j hj=>by omega⟩
      | cM hr' hb' hs ha hc hn hk hzl =>
       rename_i r1 off len cap l1 a c
       simp only[cT]at hes
       split at hes
       ·obtain⟨hcc,hes⟩:=Option.ite_none_right_eq_some.1 hes
        injection hes with hes
        injection hes with h3 h4
        have:len=0:=by
         have:=(getElems _ off len hcc.2).1
         rw[h4]at this
         simpa using this.symm
        exact⟨a,len,c,rfl,by simp[this],fun j hj=>by omega⟩
       ·cases hes
      | v hv=>exact absurd rfl (hne3 _)
      | _=>simp[cT]at hes
    refine⟨.string ⟨l.toArray⟩,w,?_,gI.same hS (.v rfl)⟩
    rw[run_convert_bytes_string w src dst e (some a) n c he1 he2 (pn hc.2)]
    let f:Nat→Int:=fun j=>if h:j<n then (cellat j h).choose else 0
    have hf1 : ∀j,j<n→w.cell? (a.add j)=some (.int .u8 (f j)):=fun j hj=>by simp only[f,dif_pos hj];exact(cellat j hj).choose_spec.1
    have hf2 : ∀j,j<n→l[j]?=some (UInt8.ofNat (f j).toNat):=fun j hj=>by simp only[f,dif_pos hj];exact(cellat j hj).choose_spec.2
    have hload:=run_loadCells (P:=P) w a n (fun j => .int .u8 (f j)) (fun j hj=>hf1 j hj)
    have hns:(loadCells a n).run P w = .ok (((List.range n).map f).map (Value.int .u8)).toArray w:=by rw[hload];simp
    rw[run_bytesToString w a n c _ hns,JM]
    have:((List.range n).map f).map (fun n=>UInt8.ofNat n.toNat)=l:=by
     apply List.ext_getElem?
     intro j
     rcases Nat.lt_or_ge j n with hj | hj
     ·rw[hf2 j hj];simp[hj]
     ·rw[List.getElem?_eq_none (by simpa using hj),List.getElem?_eq_none (by omega)]
    rw[this]
    have he0:ByteArray.empty.data = #[]:=rfl
    rw[he0]
    simp
   ·cases h
  ·replace h:=Option.ite_none_right_eq_some.1 h
   obtain⟨hc,h⟩:=h
   simp only[Bool.and_eq_true,beq_iff_eq]at hc
   obtain⟨he0,hc⟩:=hc
   subst he0
   obtain⟨e,he1,he2⟩:=nR hc
   cases y with
   | cM r' off len cap =>
    obtain⟨k,hk,hk1,h⟩ : ∃k,g r'=some k∧k.esz=1∧some (AV.cM r' off len cap,([]:List bN))=some (x,bs):=by
     cases hk:g r' with
     | none=>simp only[hk]at h;cases h
     | some k =>
      simp only[hk]at h
      obtain⟨h1,h⟩:=Option.ite_none_right_eq_some.1 h
      exact⟨k,rfl,h1,h⟩
    injection h with h;injection h with h1 h2;subst h1;subst h2
    have hy0:=hy
    cases hy with | cM hrl hbb hsp ha hcc hn hkk hzl =>
    rename_i l a c
    have hbk:=hS.at hrl hzl hk
    obtain⟨arr,T,fz,hh,hsz,hfz,hcells⟩:=hbk.heap
    have hlt:=hbk.lt
    have hfr:w.freeze ⟨a.block,arr.size,none⟩ 1=bW w l.b (.cells arr T (if fz.1 == fz.2 then (arr.size,arr.size+1) else (min fz.1 arr.size,max fz.2 (arr.size+1)))):=by
     unfold World.freeze bW
     rw[if_neg (by decide)]
     congr 1
     apply Array.ext_getElem?
     intro i
     rw[Array.getElem?_modify,hbb]
     by_cases hi:l.b=i
     ·subst hi
      rw[if_pos rfl,hh,Array.getElem?_setIfInBounds_self_of_lt hlt]
      rfl
     ·rw[if_neg hi,Array.getElem?_setIfInBounds_ne hi]
    have hfz' : ∀o,o<arr.size →¬((if fz.1 == fz.2 then (arr.size,arr.size+1) else (min fz.1 arr.size,max fz.2 (arr.size+1)):Nat × Nat).1≤o∧(o<(if fz.1 == fz.2 then (arr.size,arr.size+1) else (min fz.1 arr.size,max fz.2 (arr.size+1)):Nat × Nat).2∨(if fz.1 == fz.2 then (arr.size,arr.size+1) else (min fz.1 arr.size,max fz.2 (arr.size+1)):Nat × Nat).2<(if fz.1 == fz.2 then (arr.size,arr.size+1) else (min fz.1 arr.size,max fz.2 (arr.size+1)):Nat × Nat).1)):=by
     intro o ho
     split
     ·simp only;omega
     ·rename_i hne
      simp only[beq_iff_eq]at hne
      have h1:arr.size≤fz.1:=by
       rcases Nat.lt_or_ge fz.1 arr.size with h | h
       ·exact absurd ⟨Nat.le_refl _,by omega⟩ (hfz.1 fz.1 h)
       ·exact h
      simp only
      omega
    obtain⟨h3,h4⟩:=hS.mark hk hrl hh hfr ⟨hfz',fun h1=>by omega⟩
    refine⟨.slice (some a) len c,_,?_,M,ι,hy0,by rw[kR];exact h3,by rw[kR];exact h4,fun q hq _=>hq⟩
    have hsh:w.shape? a.block=some (T,arr.size):=by
     unfold World.shape?
     rw[hbb,hh]
    simp[Go.convert,bH he1,bH he2,markStringish,hsh]
   | _=>cases h
 ·rename_i e;cases e
theorem NG(hS:fh M ι g w)(hr:r.k=0)(hq:ι r=none){t:TypeId}{y z x:AV}{u0 u1:Value}(hy:VR M ι y u0)(hz:VR M ι z u1){bs:List bN}(h:u4 P r t (some y) (some z)=some (x,bs)) :
 ∃u w',(Instr.makeSlice t u0 u1).run P w = .ok u w'∧gI M ι g w r x bs u w':=by
 unfold u4 at h
 simp only[Option.bind_some]at h
 split at h
 ·rename_i e l c he hl hc
  obtain⟨kl,rfl⟩:=sN hy hl
  obtain⟨kc,rfl⟩:=sN hz hc
  split at h
  ·rename_i zv s b hzv hs hb
   obtain⟨hcond,h⟩:=Option.ite_none_right_eq_some.1 h
   obtain⟨c1,c2,c3,c4,c5,c6,c7⟩:=hcond
   injection h with h
   injection h with h1 h2
   subst h1;subst h2
   obtain⟨it,u,hit,hiz,hu⟩:=qh hzv
   obtain⟨i',hi',hsz⟩:=tl hs
   rw[hit]at hi';cases hi'
   simp only[lA,hit,Option.map_some,Option.some.injEq]at hb
   have hzr:=gT (M:=M) (ι:=ed) hu
   have huz:u.cells.size=s:=by have:=hzr.cells.1;simp at this;omega
   obtain⟨ln,rfl⟩:=Int.eq_ofNat_of_zero_le c1
   obtain⟨cn,rfl⟩:=Int.eq_ofNat_of_zero_le (Int.le_trans c1 c2)
   have hwl:IntKind.i64.wrap (ln:Int)=ln:=IntWalk.i64_in _ ⟨by omega,by omega⟩
   have hwc:IntKind.i64.wrap (cn:Int)=cn:=IntWalk.i64_in _ ⟨by omega,by omega⟩
   have hnl : ¬((cn:Int)<0):=by omega
   have hbig : ¬(281474976710656<(it.bytes:Int) * (cn:Int)):=by
    rw[hb,Int.mul_comm]
    have e1:((cg:Nat):Int)=140737488355328:=rfl
    omega
   have hll : ¬((ln:Int)<0):=by omega
   have hlc : ¬((cn:Int)<(ln:Int)):=by omega
   have hflat:=vp (zs:=u.cells) (n:=cn) (by omega)
   rw[huz]at hflat
   have harr:((Array.range (cn * s)).map ((if cn * s=0 then #[] else u.cells)[· % (if cn * s=0 then #[] else u.cells).size]!)).toList=(List.replicate cn u.cells.toList).flatten:=by
    by_cases h0:cn * s=0
    ·have hcn:cn=0:=by
      rcases Nat.mul_eq_zero.1 h0 with h | h
      ·exact h
      ·omega
     simp[hcn]
    ·rw[if_neg h0,huz];exact hflat
   obtain⟨arr,harr0⟩ : ∃arr,arr=(Array.range (cn * s)).map ((if cn * s=0 then #[] else u.cells)[· % (if cn * s=0 then #[] else u.cells).size]!):=⟨_,rfl⟩
   rw[←harr0]at harr
   have hrowc:=Row.replicate hzr c6 c7 cn
   have hsize:arr.size=cn * s:=by rw[←Array.length_toList,harr];have:=hrowc.len;simpa using this
   have hrun:(Instr.makeSlice t (.int kl ln) (.int kc cn)).run P w = .ok (.slice (some ⟨w.heap.size,0,none⟩) ln cn) (w.alloc (.cells arr e)):=by
    subst harr0
    by_cases h0:cn * s=0
    ·simp[Instr.makeSlice,bH (fS he),asInt,asIntOf,typeInfo,hit,hwl,hwc,hnl,hbig,hll,hlc,cO hs,h0,newRow]
    ·simp[Instr.makeSlice,bH (fS he),asInt,asIntOf,typeInfo,hit,hwl,hwc,hnl,hbig,hll,hlc,cO hs,h0,newRow,zeroValue,hiz]
   refine⟨_,_,hrun,?_⟩
   have hrow:=Row.replicate hzr c6 c7 ln
   have:=s8 hS hr hq (w':=w.alloc (.cells arr e)) ⟨rfl,rfl,rfl,rfl⟩ hrow (by
    intro k v hk
    rw[←Array.getElem?_toList,harr]
    have hle:(List.replicate cn u.cells.toList)=List.replicate ln u.cells.toList++List.replicate (cn - ln) u.cells.toList:=by rw[List.replicate_append_replicate];congr 1;omega
    rw[hle,List.flatten_append,List.getElem?_append_left (List.getElem?_eq_some_iff.1 hk).1]
    exact hk) (n:=cn) (c:=cn) hsize (zw.zero _ _) (by simp;omega) (Nat.le_refl _) (cap:=none) (by intro k hk;cases hk) c5
   simpa using this
  ·cases h
 ·cases h
end
end Go.Ab
namespace Go.Ab
section
variable{P:Program}{M:Mem}{ι:Map}{g:dk}{w:World}{r:Ref}
theorem Ce(hS:fh M ι g w){t':Option TypeId}{e z:Nat}(hz:aU P e=some z)(hz0:0<z){x:AV}{ux:Value}(hx:VR M ι x ux){new:List AV}
 (hc : ¬((t'.bind P.underlying).isNone=true∨(t'.map (isInt P)).getD false≠isNum x)) (h:mq P g e x=some (z,new)) : ∃us,Row M z new us∧App P w t' ux e z new.length us:=by
 have hc' : ∃d,t'.bind P.underlying=some d∧(isNum x=false →∀k,d ≠ .int k)∧(isNum x=true →∃k,d = .int k):=by
  have h1 : ¬(t'.bind P.underlying).isNone=true:=fun h=>hc (.inl h)
  have h2:(t'.map (isInt P)).getD false=isNum x:=Classical.not_not.1 fun h=>hc (.inr h)
  cases t' with
  | none=>simp at h1
  | some t =>
   simp only[Option.bind_some]at h1 ⊢
   cases hu:P.underlying t with
   | none=>simp[hu]at h1
   | some d =>
    simp only[Option.map_some,Option.getD_some]at h2
    refine⟨d,rfl,?_,?_⟩
    ·intro hn k hk
     subst hk
     rw[hn]at h2
     simp[isInt,hu]at h2
    ·intro hn
     rw[hn]at h2
     obtain⟨k,hk⟩:=Ot h2
     rw[hu]at hk
     exact⟨k,by simpa using hk⟩
 obtain⟨d,hd,hd1,hd2⟩:=hc'
 unfold mq at h
 split at h
 ·simp only[Option.map_eq_some_iff]at h
  obtain⟨z',hz',h⟩:=h
  injection h with h1 h2
  subst h2
  cases hx
  exact⟨[],Row.nil,.src hd (hd1 rfl) (fun w'=>rfl) (fun w' _=>rfl)⟩
 ·rename_i k n
  split at h
  ·rename_i wv z' hw hz'
   obtain⟨hcond,h⟩:=Option.ite_none_right_eq_some.1 h
   injection h with h
   injection h with h1 h2
   subst h1;subst h2
   obtain⟨c1,c2,c3,c4⟩:=hcond
   obtain⟨m,rfl⟩:=Int.eq_ofNat_of_zero_le c1
   obtain⟨k',rfl⟩:=hd2 rfl
   cases hx
   obtain⟨u,hu1,hu2⟩:=sF hw w
   have hur : ∀w':World,(zeroValue e).run P w' = .ok u w':=by
    intro w'
    obtain⟨u',h1,h2⟩:=sF hw w'
    obtain⟨it,v,hit,hiz,hv⟩:=qh hw
    have e1:(zeroValue e).run P w = .ok v w:=by simp[zeroValue,typeInfo,hit,hiz]
    have e2:(zeroValue e).run P w' = .ok v w':=by simp[zeroValue,typeInfo,hit,hiz]
    rw[e1]at hu1
    cases hu1
    exact e2
   have hv:=gT (M:=M) (ι:=ed) hu2
   have hus:u.cells.size=z':=by have:=hv.cells.1;simp at this;omega
   refine⟨_,Row.replicate hv c3 c4 m,?_⟩
   rw[Int.toNat_natCast]
   exact .zeros (kx:=k) u hd (by simp) (by simpa using c2) hur hus (by simp)
  ·cases h
 ·rename_i hne1 hne2
  have hnum:isNum x=false:=by
   unfold isNum
   split
   ·exact absurd rfl (hne2 _ _)
   ·rfl
  obtain⟨us,hsrc⟩:=lJ (P:=P) hS hx hz0 h
  refine⟨us,hsrc.row,.src hd (hd1 hnum) hsrc.lenOf fun w' hw'=>?_⟩
  have:=hsrc.first new.length w' (Nat.le_refl _) hw'
  rwa [List.take_of_length_le (by rw[hsrc.len];exact Nat.le_refl _)]at this
theorem xl{e z:Nat}(hz:aU P e=some z){y:AV}(hy:eG P e=some y)(hl:y.cells.length=z) : ∃u,(∀w':World,(zeroValue e).run P w' = .ok u w')∧u.cells.size=z:=by
 obtain⟨it,v,hit,hiz,hv⟩:=qh hy
 refine⟨v,fun w'=>by simp[zeroValue,typeInfo,hit,hiz],?_⟩
 have:=(gT (M:=fun _ _=>none) (ι:=ed) hv).cells.1
 simp at this
 omega
theorem vl{olds us:List Value}{zv:Value}{z n1 n2 cap:Nat}(h1:olds.length=n1 * z)(h2:us.length=n2 * z)(hz:zv.cells.size=z)(hc:n1+n2≤cap) :
 (olds.toArray++us.toArray++Builtin.zeroCells zv.cells (cap - (n1+n2))).size=cap * z ∧
 ∀(k:Nat) u,(olds++us)[k]?=some u→(olds.toArray++us.toArray++Builtin.zeroCells zv.cells (cap - (n1+n2)))[k]?=some u:=by
 constructor
 ·simp only[Array.size_append,List.size_toArray,size_zeroCells,hz,h1,h2,←Nat.add_mul]
  congr 1
  omega
 ·intro k u hk
  have hlt:=(List.getElem?_eq_some_iff.1 hk).1
  rw[Array.getElem?_append_left (by simpa using hlt)]
  simpa using hk
theorem wj{a:Option Addr}{len c z:Nat}{es:List AV}{us:List Value}{u:Value}(hu:u = .slice a len c)(hl:es.length=len)(h:Src P M w u z es us) :
 ∀w':World,w'.heap=w.heap→(Builtin.firstCells z len (.slice a len c)).run P w' = .ok us.toArray w':=by
 intro w' hw'
 have:=h.first es.length w' (Nat.le_refl _) hw'
 rw[List.take_of_length_le (by rw[h.len];exact Nat.le_refl _),hu,hl]at this
 exact this
theorem Jg(hS:fh M ι g w)(hr:r.k=0)(hq:ι r=none){ts:Array TypeId}{ty:TypeId}{s x y:AV}{us ux:Value}(hs:VR M ι s us)(hx:VR M ι x ux){bs:List bN}
 (h:gK P g r ts[0]? ts[1]? s x=some (y,bs)) : ∃u w',(Builtin.append_ ts ty #[us,ux]).run P w = .ok u w'∧gI M ι g w r y bs u w':=by
 unfold gK at h
 split at h
 ·cases h
 ·rename_i e he
  simp only[Option.bind_eq_some_iff]at he
  obtain⟨t,ht,he⟩:=he
  have hu:=fS he
  split at h
  ·cases h
  ·rename_i hc
   split at h
   ·rename_i z by' zz ez new hz hb hzz hnew
    split at h
    ·cases h
    ·rename_i hcond
     have hez:ez=z:=Classical.not_not.1 fun h=>hcond (.inl h)
     have hz0:0<z:=Nat.pos_of_ne_zero fun h=>hcond (.inr (.inl h))
     have hb0:0<by':=Nat.pos_of_ne_zero fun h=>hcond (.inr (.inr (.inl h)))
     have hzl:zz.cells.length=z:=Classical.not_not.1 fun h=>hcond (.inr (.inr (.inr h)))
     have hez':=hez
     subst hez
     obtain⟨us',hrow,hA⟩:=Ce (w:=w) hS hz hz0 hx hc hnew
     have nothing:new=[] →∀a len c,len≤c→us = .slice a len c→(Builtin.append_ ts ty #[us,ux]).run P w = .ok us w:=by
      intro hn a len c hlc hus
      subst hn
      have:us'=[]:=List.eq_nil_of_length_eq_zero (by rw[hrow.len];simp)
      subst this
      rw[hus]
      exact A2 ht hu hz hb hlc hA
     have fresh : ∀ {a:Option Addr} {len c:Nat} {es:List AV} {us0:List Value},us = .slice a len c→es.length=len→Row M ez es us0 →
      (∀w':World,w'.heap=w.heap→(Builtin.firstCells ez len (.slice a len c)).run P w' = .ok us0.toArray w')→c<len+new.length→(len+new.length) * by'≤cg →
      ∃u w',(Builtin.append_ ts ty #[us,ux]).run P w = .ok u w'∧gI M ι g w r (.cM r 0 (len+new.length) none) [⟨ez,es++new,true,false⟩] u w':=by
      intro a len c es us0 hus hel hrow0 hold hlt hroom
      obtain⟨zv,hzv,hzs⟩:=xl hz hzz hzl
      obtain⟨cap,w',hcap,hrun,hgrew⟩:=ql (P:=P) (w:=w) (ty:=ty) ht hu hz hb hzv hzs hold hA hlt hroom hb0
      obtain⟨h1,h2⟩:=vl (olds:=us0) (us:=us') (n1:=len) (n2:=new.length) (cap:=cap) (by rw[hrow0.len,hel]) hrow.len hzs hcap
      refine⟨_,w',by rw[hus];exact hrun,?_⟩
      have:=s8 hS hr hq hgrew (hrow0.append hrow) h2 (n:=cap) (c:=cap) h1 (zw.zero _ _) (by simp;omega) (Nat.le_refl _) (cap:=none) (by intro k hk;cases hk) hz0
      simp only[List.length_append,hel]at this
      exact this
     split at h
     ·
      cases hs
      split at h
      ·rename_i hn
       injection h with h;injection h with h1 h2;subst h1;subst h2
       exact⟨_,w,nothing hn none 0 0 (Nat.le_refl _) rfl,gI.same hS (.v rfl)⟩
      ·rename_i hn
       obtain⟨hroom,h⟩:=Option.ite_none_right_eq_some.1 h
       injection h with h;injection h with h1 h2;subst h1;subst h2
       have hpos:0<new.length:=List.length_pos_iff.2 hn
       have:=fresh (a:=none) (len:=0) (c:=0) (es:=[]) (us0:=[]) rfl rfl Row.nil (fun w' _=>rfl) (by omega) (by simpa using hroom)
       simpa using this
     ·
      rename_i n es cap
      split at h
      ·cases h
      ·rename_i hnz
       have hnz:n=ez:=Classical.not_not.1 hnz
       subst hnz
       have hs0:=hs
       cases hs with | cw cell hsp hcc hk hm hes hh =>
       rename_i a c
       split at h
       ·rename_i hn
        injection h with h;injection h with h1 h2;subst h1;subst h2
        exact⟨_,w,nothing hn _ _ _ hcc rfl,gI.same hS hs0⟩
       ·cases cap with
        | some k =>
         obtain⟨⟨hlt,hroom⟩,h⟩:=Option.ite_none_right_eq_some.1 h
         injection h with h;injection h with h1 h2;subst h1;subst h2
         have hck:=hk k rfl
         obtain⟨us0,hsrc⟩:=lJ (P:=P) (g:=g) (z:=n) (es:=es) hS hs0 hz0 rfl
         exact fresh rfl rfl hsrc.row (wj rfl rfl hsrc) (by omega) hroom
        | none=>cases h
     ·
      rename_i r' off len cap
      split at h
      ·rename_i b hb'
       split at h
       ·cases h
       ·rename_i hcond'
        have hbz:b.esz=ez:=Classical.not_not.1 fun h=>hcond' (.inl h)
        have harr:b.arr=true:=by
         cases hh:b.arr with
         | true=>rfl
         | false=>exact absurd (.inr hh) hcond'
        have hs0:=hs
        cases hs with | cM hrl hbb hsp ha hcc hn hk hzl =>
        rename_i l a c
        split at h
        ·rename_i hn'
         injection h with h;injection h with h1 h2;subst h1;subst h2
         exact⟨_,w,nothing hn' _ _ _ hcc rfl,gI.same hS hs0⟩
        ·cases cap with
         | some k =>
          obtain⟨⟨hle,hlt,hroom⟩,h⟩:=Option.ite_none_right_eq_some.1 h
          injection h with h;injection h with h1 h2;subst h1;subst h2
          have hck:=hk k rfl
          have hel:cT g (.cM r' off len (some k))=some (ez,(b.es.drop off).take len):=by
           simp only[cT,hb',harr,hle,and_self,if_true,hbz]
          obtain⟨us0,hsrc⟩:=lJ (P:=P) hS hs0 hz0 hel
          have hl:=(getElems b.es off len hle).1
          exact fresh rfl hl hsrc.row (wj rfl hl hsrc) (by omega) hroom
         | none=>cases h
      ·cases h
     ·cases h
   ·cases h
end
end Go.Ab
namespace Go.Ab
theorem ab.get_put(H:ab)(r q:Ref)(b:Option bN):(H.put r b).get q=if q=r then b else H.get q:=by
 induction H with
 | nil =>
  simp only[ab.put,ab.get]
  by_cases h:q=r
  ·rw[if_pos h.symm,if_pos h]
  ·rw[if_neg (Ne.symm h),if_neg h]
 | cons p H ih =>
  obtain⟨r',b'⟩:=p
  simp only[ab.put]
  by_cases h1:r'=r
  ·rw[if_pos h1]
   simp only[ab.get]
   by_cases h2:q=r
   ·rw[if_pos h2.symm,if_pos h2]
   ·rw[if_neg (Ne.symm h2),if_neg h2,if_neg (by rw[h1];exact Ne.symm h2)]
  ·rw[if_neg h1]
   simp only[ab.get]
   by_cases h3:r'=q
   ·rw[if_pos h3,if_neg (by rw[←h3];exact h1),if_pos h3]
   ·rw[if_neg h3,ih,if_neg h3]
theorem ab.kz(H:ab)(r:Ref)(b:Option bN)(h:(H.get r).isSome=true)(d t:Nat):(H.put r b).gen d t=H.gen d t:=by
 induction H with
 | nil=>simp[ab.get]at h
 | cons p H ih =>
  obtain⟨r',b'⟩:=p
  simp only[ab.put]
  by_cases h1:r'=r
  ·rw[if_pos h1,h1];rfl
  ·rw[if_neg h1]
   simp only[ab.gen]
   simp only[ab.get,if_neg h1]at h
   rw[ih h]
theorem ab.eg(R:List Ref) : ∀(H:ab),(cq H R).get=qS H.get R:=by
 induction R with
 | nil=>intro H;funext q;simp[cq,qS]
 | cons r R ih =>
  intro H
  funext q
  simp only[cq]
  split
  ·rename_i b hb
   rw[ih]
   unfold qS
   simp only[List.mem_cons,ab.get_put]
   by_cases hq:q=r
   ·subst hq
    simp[hb]
   ·simp only[if_neg hq]
    by_cases hR:q∈R
    ·simp[hR]
    ·simp[hR,hq]
  ·rename_i hb
   rw[ih]
   unfold qS
   simp only[List.mem_cons]
   by_cases hq:q=r
   ·subst hq
    simp[hb]
   ·by_cases hR:q∈R
    ·simp[hR]
    ·simp[hR,hq]
theorem ab.il(R:List Ref) : ∀(H:ab)(d t:Nat),(cq H R).gen d t=H.gen d t:=by
 induction R with
 | nil=>intro H d t;rfl
 | cons r R ih =>
  intro H d t
  simp only[cq]
  split
  ·rename_i b hb
   rw[ih,ab.kz H r _ (by rw[hb];rfl)]
  ·exact ih H d t
theorem ab.ET(r:Ref) : ∀(bs:List bN)(k:Nat)(H:ab)(q:Ref),(keyed r k bs H).get q=if q.d=r.d∧q.t=r.t∧q.g=r.g∧k≤q.k∧q.k<k+bs.length then bs[q.k - k]? else H.get q:=by
 intro bs
 induction bs with
 | nil=>intro k H q;rw[if_neg (by intro h;simp only[List.length_nil]at h;omega)];rfl
 | cons b bs ih =>
  intro k H q
  simp only[keyed,ih,ab.get,List.length_cons]
  by_cases h1:q.d=r.d∧q.t=r.t∧q.g=r.g
  ·by_cases h2:q.k=k
   ·rw[if_neg (by omega),if_pos (by cases q;cases r;simp_all),if_pos ⟨h1.1,h1.2.1,h1.2.2,by omega,by omega⟩]
    simp[h2]
   ·by_cases h3:k+1≤q.k∧q.k<k+1+bs.length
    ·rw[if_pos ⟨h1.1,h1.2.1,h1.2.2,h3⟩,if_pos ⟨h1.1,h1.2.1,h1.2.2,by omega,by omega⟩]
     rw[show q.k - k=(q.k - (k+1))+1 by omega]
     simp
    ·rw[if_neg (by omega),if_neg (by intro h;apply h2;rw[←h]),if_neg (by omega)]
  ·rw[if_neg (by intro h;exact h1 ⟨h.1,h.2.1,h.2.2.1⟩),if_neg (by intro h;apply h1;rw[←h];exact⟨rfl,rfl,rfl⟩),if_neg (by intro h;exact h1 ⟨h.1,h.2.1,h.2.2.1⟩)]
theorem ab.ju(r:Ref)(bs:List bN)(H:ab):(keyed r 0 bs H).get=oV H.get r bs:=by
 funext q
 rw[ab.ET]
 unfold oV
 simp
theorem ab.ja(r:Ref) : ∀(bs:List bN)(k:Nat)(H:ab)(d t:Nat),(keyed r k bs H).gen d t=if d=r.d∧t=r.t∧bs≠[] then r.g+1 else H.gen d t:=by
 intro bs
 induction bs with
 | nil=>intro k H d t;simp[keyed]
 | cons b bs ih =>
  intro k H d t
  simp only[keyed,ih,ab.gen]
  by_cases h:d=r.d∧t=r.t
  ·obtain⟨rfl,rfl⟩:=h
   by_cases hb:bs=[]
   ·simp[hb]
   ·simp[hb]
  ·have h' : ¬(r.d=d∧r.t=t):=fun hh=>h ⟨hh.1.symm,hh.2.symm⟩
   rw[if_neg (by intro hh;exact h ⟨hh.1,hh.2.1⟩),if_neg h',if_neg (by intro hh;exact h ⟨hh.1,hh.2.1⟩)]
def pB(ι:Map)(H:ab):Prop :=∀q l,ι q=some l→q.g<H.gen q.d q.t
theorem pB.fresh{ι:Map}{H:ab}(h:pB ι H)(d t k:Nat):ι ⟨d,t,H.gen d t,k⟩=none:=by
 cases hi:ι ⟨d,t,H.gen d t,k⟩ with
 | none=>rfl
 | some l=>exact absurd (h _ l hi) (Nat.lt_irrefl _)
section
variable{P:Program}{M:Mem}{ι:Map}{g:dk}{w:World}{r:Ref}
def qI(M:Mem)(ι:Map)(H:ab)(w:World)(x:AV)(H':ab)(u:Value)(w':World):Prop :=
 ∃M' ι',VR M' ι' x u∧fh M' ι' H'.get w'∧pA M ι H.get w M' ι' H'.get w'∧pB ι' H'
theorem gI.YP{H:ab}{x:AV}{bs:List bN}{u:Value}{w':World}(hD:pB ι H){d t:Nat}(h:gI M ι H.get w ⟨d,t,H.gen d t,0⟩ x bs u w'):qI M ι H w x (keyed ⟨d,t,H.gen d t,0⟩ 0 bs H) u w':=by
 obtain⟨M',ι',h1,h2,h3,h4⟩:=h
 refine⟨M',ι',h1,by rw[ab.ju];exact h2,by rw[ab.ju];exact h3,?_⟩
 intro q l hq
 rw[ab.ja]
 cases hi:ι q with
 | some l0 =>
  have:=hD q l0 hi
  split
  ·rename_i hc;rw[hc.1,hc.2.1]at this;exact Nat.lt_succ_of_lt this
  ·exact this
 | none =>
  by_cases hk : ∃k,k<bs.length∧q = { (⟨d,t,H.gen d t,0⟩:Ref)with k:=k}
  ·obtain⟨k,hk,rfl⟩:=hk
   rw[if_pos ⟨rfl,rfl,by intro e;rw[e]at hk;simp at hk⟩]
   exact Nat.lt_succ_self _
  ·rw[h4 q hi (fun k hlt e=>hk ⟨k,hlt,e⟩)]at hq
   cases hq
theorem G9{cs new:List AV}{j:Nat}(h:j+new.length≤cs.length)(k:Nat):(patch cs j new)[k]?=if j≤k∧k<j+new.length then new[k - j]? else cs[k]?:=by
 unfold patch
 have hj:(cs.take j).length=j:=by simp;omega
 rcases Nat.lt_or_ge k j with h1 | h1
 ·rw[List.append_assoc,List.getElem?_append_left (by omega),List.getElem?_take,if_pos h1,if_neg (by omega)]
 ·rcases Nat.lt_or_ge k (j+new.length)with h2 | h2
  ·rw[List.append_assoc,List.getElem?_append_right (by omega),List.getElem?_append_left (by omega),if_pos ⟨h1,h2⟩,hj]
  ·rw[List.getElem?_append_right (by simp;omega),List.getElem?_drop,if_neg (by omega)]
   simp only[List.length_append,hj]
   congr 1
   omega
theorem LO{x:AV}(h:x.one=true):x.cells=[x]:=by
 cases x<;>first | rfl | (simp[AV.one]at h)
theorem E5{e e':AV}{j:Nat}{new:List AV}(h:oE e j new=some e')(h1:new.all AV.one=true):j+new.length≤e.cells.length∧e'.cells=patch e.cells j new:=by
 have single : ∀x,(∀cs,e ≠ .agg cs)→j=0→new=[x]→e'=x→j+new.length≤e.cells.length∧e'.cells=patch e.cells j new:=by
  intro x hne h0 hn he
  have hc:e.cells=[e]:=by cases e<;>first | rfl | exact absurd rfl (hne _)
  subst h0;subst hn;subst he
  simp only[List.all_cons,List.all_nil,Bool.and_true]at h1
  rw[hc,LO h1]
  exact⟨by simp,by simp[patch]⟩
 unfold oE at h
 split at h
 ·obtain⟨hc,h⟩:=Option.ite_none_right_eq_some.1 h
  injection h with h
  subst h
  exact⟨hc,rfl⟩
 ·rename_i hne
  split at h
  ·injection h with h
   exact single _ (fun cs he=>hne cs he) rfl rfl h.symm
  ·cases h
theorem Br(hS:fh M ι g w){k:bN}{l:Loc}{i j:Nat}{new es':List AV}(hk:g r=some k)(hl:ι r=some l)(hzl:0<l.esz)(hfr:k.jb=false)(hw:fb k.es i j new=some es')(h1:new.all AV.one=true)
 {us:List Value} (hus:jC M (k.map ι) new us) :
 ∃arr T fz,w.heap[l.b]?=some (.cells arr T fz)∧i * k.esz+j+us.length≤arr.size∧(∀o,o<arr.size →¬(fz.1≤o∧(o<fz.2∨fz.2<fz.1)))∧(∀u∈us,u.oneCell'=true) ∧
  fh M ι (iz g r { k with es:=es'}) (bW w l.b (.cells (cz arr (i * k.esz+j) us) T fz))∧pA M ι g w M ι (iz g r { k with es:=es'}) (bW w l.b (.cells (cz arr (i * k.esz+j) us) T fz)):=by
 have hb:=hS.at hl hzl hk
 obtain⟨arr,T,fz,hh,hsz,hfz,hc⟩:=hb.heap
 unfold fb at hw
 split at hw
 ·cases hw
 ·rename_i e he
  simp only[Option.map_eq_some_iff]at hw
  obtain⟨e',he',rfl⟩:=hw
  obtain⟨hle,hcells⟩:=E5 he' h1
  have hi:i<k.es.length:=(List.getElem?_eq_some_iff.1 he).1
  have hel:=hb.cells e (List.mem_of_getElem? he)
  have hul:=hus.1
  have hroom:i * k.esz+j+us.length≤arr.size:=by
   have h2:(i+1) * k.esz≤l.n * k.esz:=Nat.mul_le_mul_right _ (by have:=hb.len;omega)
   rw[Nat.add_mul]at h2
   rw[hsz]
   omega
  have hone : ∀u∈us,u.oneCell'=true:=by
   intro u hu
   obtain⟨m,hm,hmu⟩:=List.getElem_of_mem hu
   have hm':m<new.length:=by omega
   have:=hus.2 m _ u (List.getElem?_eq_getElem hm') (by rw[←hmu];exact List.getElem?_eq_getElem hm)
   exact this.one (by simp only[List.all_eq_true]at h1;exact h1 _ (List.getElem_mem hm'))
  obtain⟨h3,h4⟩:=hS.write (k' := { k with es:=k.es.set i e'}) hk hl hzl (arr:=cz arr (i * k.esz+j) us) (T:=T) (fz:=fz) rfl rfl rfl (by rw[gq hroom];exact hsz)
   (by rw[gq hroom];exact hfz) (by simp;exact hb.len)
   (by
    intro e1 he1
    rcases List.mem_or_eq_of_mem_set he1 with h | h
    ·exact hb.cells e1 h
    ·rw[h,hcells,←hel]
     simp[patch]
     omega)
   (by
    intro o x hx
    have:=(hb.frozen o x hx).1
    rw[hfr]at this
    cases this)
   (by
    intro i' j' e1 x hi' hx
    rw[fH hroom]
    by_cases hii:i=i'
    ·subst hii
     rw[List.getElem?_set_self hi]at hi'
     injection hi' with hi'
     subst hi'
     rw[hcells,G9 hle]at hx
     split at hx
     ·rename_i hr
      rw[if_pos (by omega),show i * k.esz+j' - (i * k.esz+j)=j' - j by omega]
      have hlt:j' - j<us.length:=by omega
      exact⟨us[j' - j],List.getElem?_eq_getElem hlt,hone _ (List.getElem_mem hlt),hus.2 _ _ _ hx (List.getElem?_eq_getElem hlt)⟩
     ·rename_i hr
      rw[if_neg (by omega)]
      exact hc i j' e x he hx
    ·rw[List.getElem?_set_ne hii]at hi'
     have hj':j'<k.esz:=by
      rw[←hb.cells e1 (List.mem_of_getElem? hi')]
      exact(List.getElem?_eq_some_iff.1 hx).1
     rw[if_neg]
     ·exact hc i' j' e1 x hi' hx
     ·rcases Nat.lt_or_gt_of_ne hii with h | h
      ·have:(i+1) * k.esz≤i' * k.esz:=Nat.mul_le_mul_right _ h
       rw[Nat.add_mul]at this
       omega
      ·have:(i'+1) * k.esz≤i * k.esz:=Nat.mul_le_mul_right _ h
       rw[Nat.add_mul]at this
       omega)
  exact⟨arr,T,fz,hh,hroom,hfz.1,hone,h3,h4⟩
theorem uY{t:TypeId}{n:Nat}(hn:aU P t=some n){b o:Nat}{u:Value}(hu:u.cells.size=n){arr:Array Value}{T:TypeId}{fz:Nat × Nat}(hw:w.heap[b]?=some (.cells arr T fz))
 (hroom:o+u.cells.toList.length≤arr.size) (hfz : ∀o,o<arr.size →¬(fz.1≤o∧(o<fz.2∨fz.2<fz.1))) (h1 : ∀x∈u.cells.toList,x.oneCell'=true) :
 (Instr.storeAt t (.pointer (some ⟨b,o,none⟩)) u).run P w = .ok () (bW w b (.cells (cz arr o u.cells.toList) T fz)):=by
 have:=kp (P:=P) o u.cells.toList 0 arr w hw (by simpa using hroom) hfz h1
 simp only[Nat.add_zero]at this
 simp[Instr.storeAt,Instr.sureAddr,storeVar,cO hn,hu,this]
theorem pd(H:ab)(r:Ref)(k:bN):(H.put r (some k)).get=iz H.get r k:=by
 funext q
 rw[ab.get_put]
 rfl
theorem K1{H:ab}(hS:fh M ι H.get w)(hD:pB ι H){t:TypeId}{a x y:AV}{ua ux:Value}(ha:VR M ι a ua)(hx:VR M ι x ux){H':ab}(h:aT P H t (some a) (some x)=some (y,H')) :
 ∃w',(Instr.storeAt t ua ux).run P w = .ok () w'∧qI M ι H w y H' undef w':=by
 unfold aT at h
 split at h
 ·rename_i r' i j x' n e1 e2 hn
  injection e1 with e1;injection e2 with e2
  subst e1;subst e2
  cases ha with | ptr hl hzl =>
  rename_i l
  split at h
  ·rename_i b hb
   obtain⟨⟨hxn,hx1,hfr⟩,h⟩:=Option.ite_none_right_eq_some.1 h
   obtain⟨l',hl',hbk⟩:=hS.live r' b hb
   rw[hl]at hl';cases hl'
   have hxs:=hx.cells
   have hun:ux.cells.size=n:=by have:=hxs.1;simp at this;omega
   split at h
   ·rename_i harr
    split at h
    ·rename_i y' hy'
     split at h
     ·cases h
     ·rename_i hnr
      obtain⟨hy1,h⟩:=Option.ite_none_right_eq_some.1 h
      simp only[Option.map_eq_some_iff]at h
      obtain⟨es',hes,h⟩:=h
      injection h with h1 h2
      subst h1;subst h2
      obtain⟨hS1,hF1⟩:=vm (R:=aH H.get depth x) hS
      have hv:=xR hS depth x y' ux hy' (fun r hr=>hr) hx
      have hb1:qS H.get (aH H.get depth x) r'=some b:=by unfold qS;rw[if_neg hnr];exact hb
      have hyc:=hv.cells
      obtain⟨arr,T,fz,h3,h4,h5,h6,h7,h8⟩:=Br hS1 hb1 hl hzl hfr hes hy1 (us:=ux.cells.toList) (by rw[bN.map,if_pos harr];exact hyc)
      refine⟨bW w l.b (.cells (cz arr (i * b.esz+j) ux.cells.toList) T fz),?_,kQ M ι H.get w (aH H.get depth x),ι,.v rfl,?_,?_,?_⟩
      ·rw[hbk.esz]
       exact uY hn hun h3 h4 h5 h6
      ·rw[pd,ab.eg];exact h7
      ·rw[pd,ab.eg];exact hF1.trans h8
      ·intro q lq hq
       rw[ab.kz _ _ _ (by rw[ab.eg,hb1];rfl),ab.il]
       exact hD q lq hq
    ·cases h
   ·rename_i harr
    simp only[Option.map_eq_some_iff]at h
    obtain⟨es',hes,h⟩:=h
    injection h with h1 h2
    subst h1;subst h2
    obtain⟨arr,T,fz,h3,h4,h5,h6,h7,h8⟩:=Br hS hb hl hzl hfr hes hx1 (us:=ux.cells.toList) (by rw[bN.map,if_neg harr];exact hxs)
    refine⟨bW w l.b (.cells (cz arr (i * b.esz+j) ux.cells.toList) T fz),?_,M,ι,.v rfl,?_,?_,?_⟩
    ·rw[hbk.esz]
     exact uY hn hun h3 h4 h5 h6
    ·rw[pd];exact h7
    ·rw[pd];exact h8
    ·intro q lq hq
     rw[ab.kz _ _ _ (by rw[hb];rfl)]
     exact hD q lq hq
  ·cases h
 ·cases h
end
end Go.Ab
namespace Go.Ab
section
variable{P:Program}{M:Mem}{ι:Map}{g:dk}{w:World}{r:Ref}
def oD(g:dk)(r:Ref):dk:=fun q=>if q=r then none else g q
theorem KE(hS:fh M ι g w)(r:Ref):fh M ι (oD g r) w∧pA M ι g w M ι (oD g r) w:=by
 have back : ∀ {q k},oD g r q=some k→g q=some k:=by
  intro q k h
  unfold oD at h
  split at h
  ·cases h
  ·exact h
 exact⟨⟨hS.mem,fun q k h=>hS.live q k (back h),fun q q' k k' l l' h h'=>hS.inj q q' k k' l l' (back h) (back h')⟩,
  ⟨rfl,rfl,rfl,Nat.le_refl _,fun _ _ _=>rfl,fun _ _ _ h=>h,fun _ _ h=>h,fun q k l h hl => .inr ⟨q,k,l,back h,hl,rfl⟩,fun _ _ _ h => .inl h⟩⟩
theorem Ey(hS:fh M ι g w){r q:Ref}{k k':bN}{l:Loc}(hk:g r=some k)(hl:ι r=some l)(hq:ι q=none){arr':Array Value}{w':World}
 (hw : ∃arr T fz,w.heap[l.b]?=some (.cells arr T fz)∧arr.size=arr'.size∧w'=bW w l.b (.cells arr' T fz)) (hesz:k'.esz=k.esz) (harr:k'.arr=true) (harr0:k.arr=true) (hfrz:k'.jb=k.jb)
 (hkeep : ∀(o:Nat) u,o<k.es.length * k.esz →∀arr T fz,w.heap[l.b]?=some (.cells arr T fz)→arr[o]?=some u→arr'[o]?=some u)
 (hlen:k'.es.length≤l.n) (hle:k.es.length≤k'.es.length) (hcells : ∀e∈k'.es,e.cells.length=k.esz)
 (hc : ∀(i j:Nat) e x,k'.es[i]?=some e→e.cells[j]?=some x →∃u,arr'[i * k.esz+j]?=some u∧u.oneCell'=true∧VR M ed x u) :
 fh M (gp ι q l) (iz (oD g r) q k') w'∧pA M ι g w M (gp ι q l) (iz (oD g r) q k') w':=by
 obtain⟨arr,T,fz,hh,hsz,hw'⟩:=hw
 obtain⟨l',hl',hb⟩:=hS.live r k hk
 rw[hl]at hl';cases hl'
 have hkz:=hb.pos harr0
 replace hb:=hb.cellsOk hkz
 obtain⟨arr0,T0,fz0,hh0,h1,h2,h3⟩:=hb.heap
 rw[hh]at hh0;cases hh0
 have hlt:=hb.lt
 have hle':=yb (l:=l) hq
 have hqr:q≠r:=by intro e;rw[e,hl]at hq;cases hq
 refine⟨⟨?_,?_,?_⟩,?_⟩
 ·intro b o x hx
  by_cases hbb:l.b=b
  ·subst hbb
   have ho:=(hb.frozen o x hx).2
   have hx':=hS.mem _ _ _ hx
   rw[jl hh]at hx'
   rw[jl (by rw[hw'];exact eI hlt)]
   exact hkeep o x ho arr T fz hh hx'
  ·rw[World.cell?_of_block (w:=w) (by rw[hw'];exact ei hbb)]
   exact hS.mem b o x hx
 ·intro r' k1 hr
  unfold iz at hr
  split at hr
  ·rename_i e
   subst e
   injection hr with hr
   subst hr
   refine⟨l,by simp[gp],eX.Mz ⟨by rw[hb.esz,hesz],⟨arr',T,fz,by rw[hw'];exact eI hlt,by rw[←hsz,hesz];exact h1,by rw[←hsz,hesz];exact h2,?_⟩,hlen,by rw[hesz];exact hcells,?_⟩ (by rw[hesz];exact hkz)⟩
   ·intro i j e x he hx
    rw[hesz]
    obtain⟨u,hu,ho,hv⟩:=hc i j e x he hx
    refine⟨u,hu,ho,?_⟩
    rw[bN.map,if_pos harr]
    exact hv
   ·intro o x hx
    rw[hfrz,hesz]
    have:=hb.frozen o x hx
    exact⟨this.1,Nat.lt_of_lt_of_le this.2 (Nat.mul_le_mul_right _ hle)⟩
  ·rename_i hne
   unfold oD at hr
   split at hr
   ·cases hr
   ·rename_i hne'
    obtain⟨l1,hl1,hb1⟩:=hS.live r' k1 hr
    have hnb:l.b≠l1.b:=fun e=>hne' (hS.inj r' r k1 k l1 l hr hk hl1 hl e.symm)
    exact⟨l1,hle' r' l1 hl1,hb1.cV (fun _ _ _ h=>h) hle' (by rw[hw'];exact ei hnb) hb1.frozen⟩
 ·have back : ∀ {r1 k1 l1},iz (oD g r) q k' r1=some k1→gp ι q l r1=some l1→(r1=q∧l1=l)∨(r1≠q∧r1≠r∧g r1=some k1∧ι r1=some l1):=by
   intro r1 k1 l1 h h'
   unfold iz at h
   unfold gp at h'
   split at h
   ·rename_i e;rw[if_pos e]at h';injection h' with h';exact .inl ⟨e,h'.symm⟩
   ·rename_i e
    rw[if_neg e]at h'
    unfold oD at h
    split at h
    ·cases h
    ·rename_i e';exact .inr ⟨e,e',h,h'⟩
  intro r1 r2 k1 k2 l1 l2 h1 h2 h3 h4 h5
  rcases back h1 h3 with ⟨e1,e2⟩ | ⟨e1,e2,e3,e4⟩<;>rcases back h2 h4 with ⟨e1',e2'⟩ | ⟨e1',e2',e3',e4'⟩
  ·rw[e1,e1']
  ·exact absurd (hS.inj r r2 k k2 l l2 hk e3' hl e4' (by rw[←e2];exact h5)).symm e2'
  ·exact absurd (hS.inj r r1 k k1 l l1 hk e3 hl e4 (by rw[←e2'];exact h5.symm)).symm e2
  ·exact hS.inj r1 r2 k1 k2 l1 l2 e3 e3' e4 e4' h5
 ·refine⟨by rw[hw'];rfl,by rw[hw'];rfl,by rw[hw'];rfl,by rw[hw'];simp[bW],?_,fun _ _ _ h=>h,hle',?_,fun _ _ _ h => .inl h⟩
  ·intro b _ hno
   rw[hw']
   exact ei (hno r k l hk hl)
  ·intro r1 k1 l1 h h'
   unfold iz at h
   unfold gp at h'
   split at h
   ·rename_i e;rw[if_pos e]at h';injection h' with h';subst h';exact .inr ⟨r,k,l,hk,hl,rfl⟩
   ·rename_i e
    rw[if_neg e]at h'
    unfold oD at h
    split at h
    ·cases h
    ·exact .inr ⟨r1,k1,l1,h,h',rfl⟩
theorem get_append(H:ab)(q r:Ref)(k:bN)(hqr:q≠r):ab.get ((q,some k) :: H.put r none)=iz (oD H.get r) q k:=by
 funext x
 simp only[ab.get,ab.get_put]
 unfold iz oD
 by_cases h1:q=x
 ·subst h1;simp
 ·rw[if_neg h1,if_neg (Ne.symm h1)]
theorem JL(H:ab)(r:Ref)(k:bN)(hr:(H.get r).isSome=true)(d t:Nat) :
 ab.gen ((⟨r.d,r.t,H.gen r.d r.t,0⟩,some k) :: H.put r none) d t=if r.d=d∧r.t=t then H.gen r.d r.t+1 else H.gen d t:=by
 simp only[ab.gen]
 split
 ·rfl
 ·rw[ab.kz H r none hr]
theorem IH{H:ab}(hS:fh M ι H.get w)(hD:pB ι H){ts:Array TypeId}{ty:TypeId}{s x y:AV}{us ux:Value}(hs:VR M ι s us)(hx:VR M ι x ux){H':ab}
 (h:kn P H ts[0]? ts[1]? s x=some (y,H')) : ∃u w',(Builtin.append_ ts ty #[us,ux]).run P w = .ok u w'∧qI M ι H w y H' u w':=by
 unfold kn at h
 split at h
 ·cases h
 ·rename_i e he
  simp only[Option.bind_eq_some_iff]at he
  obtain⟨t,ht,he⟩:=he
  have hu:=fS he
  split at h
  ·cases h
  ·rename_i hc
   split at h
   ·rename_i z by' zz ez new hz hb hzz hnew
    split at h
    ·cases h
    ·rename_i hcond
     have hez:ez=z:=Classical.not_not.1 fun h=>hcond (.inl h)
     have hz0:0<z:=Nat.pos_of_ne_zero fun h=>hcond (.inr (.inl h))
     have hb0:0<by':=Nat.pos_of_ne_zero fun h=>hcond (.inr (.inr (.inl h)))
     have hn0:new≠[]:=fun h=>hcond (.inr (.inr (.inr (.inl h))))
     have hzl:zz.cells.length=z:=Classical.not_not.1 fun h=>hcond (.inr (.inr (.inr (.inr h))))
     subst hez
     obtain⟨us',hrow,hA⟩:=Ce (w:=w) hS hz hz0 hx hc hnew
     split at h
     ·rename_i r' off len
      split at h
      ·rename_i b hb'
       obtain⟨⟨hoff,harr,hbz,hlen,hroom⟩,h⟩:=Option.ite_none_right_eq_some.1 h
       injection h with h;injection h with h1 h2;subst h1;subst h2
       subst hoff
       subst hlen
       subst hbz
       have hs0:=hs
       cases hs with | cM hrl hbb hsp ha hcc hn hk hzl' =>
       rename_i l a c
       have hq:=hD.fresh r'.d r'.t 0
       have hqr:(⟨r'.d,r'.t,H.gen r'.d r'.t,0⟩:Ref)≠r':=by intro e;rw[e,hrl]at hq;cases hq
       have hbk:=hS.at hrl hzl' hb'
       obtain⟨arr,T,fz,hh,hsz,hfz,hcells⟩:=hbk.heap
       have hpos:0<new.length:=List.length_pos_iff.2 hn0
       have hel:cT H.get (.cM r' 0 b.es.length none)=some (b.esz,(b.es.drop 0).take b.es.length):=by
        simp[cT,hb',harr]
       obtain⟨us0,hsrc⟩:=lJ (P:=P) hS hs0 hz0 hel
       have hee:(b.es.drop 0).take b.es.length=b.es:=by simp
       rw[hee]at hsrc
       have hDom : ∀ι':Map,(∀q,ι q=none→q≠⟨r'.d,r'.t,H.gen r'.d r'.t,0⟩→ι' q=none)→pB ι' ((⟨r'.d,r'.t,H.gen r'.d r'.t,0⟩,some ⟨b.esz,b.es++new,true,b.jb⟩) :: H.put r' none):=by
        intro ι' hι q lq hql
        rw[JL H r' _ (by rw[hb'];rfl)]
        cases hi:ι q with
        | some l0 =>
         have:=hD q l0 hi
         split
         ·rename_i hcc';rw[←hcc'.1,←hcc'.2]at this;exact Nat.lt_succ_of_lt this
         ·exact this
        | none =>
         by_cases hqq:q=⟨r'.d,r'.t,H.gen r'.d r'.t,0⟩
         ·subst hqq
          rw[if_pos ⟨rfl,rfl⟩]
          exact Nat.lt_succ_self _
         ·rw[hι q hi hqq]at hql
          cases hql
       by_cases hfit:b.es.length+new.length≤c
       ·
        have haoff:a.off=0:=by
         rcases ha with h | h
         ·omega
         ·simpa using h
        have hcn:0+c≤l.n:=by
         rcases hn with h | h
         ·omega
         ·exact h
        have hae:a=⟨l.b,0,none⟩:=by rw[jo hsp,hbb,haoff]
        have hle:0+b.es.length * b.esz+us'.length≤arr.size:=by
         rw[hrow.len,hsz,Nat.zero_add,←Nat.add_mul]
         exact Nat.mul_le_mul_right _ (by omega)
        have hrun:=wL (P:=P) (w:=w) (ty:=ty) ht hu hz hb (b:=l.b) (o:=0) hA hfit hroom hh hle hfz.1 hrow.one
        rw[Nat.zero_add]at hrun hle
        obtain⟨h3,h4⟩:=Ey (M:=M) (q:=⟨r'.d,r'.t,H.gen r'.d r'.t,0⟩) (k':=⟨b.esz,b.es++new,true,b.jb⟩) hS hb' hrl hq (arr':=cz arr (b.es.length * b.esz) us')
         ⟨arr,T,fz,hh,(gq hle).symm,rfl⟩ rfl rfl harr rfl
         (by
          intro o u ho arr1 T1 fz1 hh1 hu1
          rw[hh]at hh1;cases hh1
          rw[fH hle,if_neg (by omega)]
          exact hu1)
         (by simp;omega) (by simp) (by
          intro e1 he1
          rcases List.mem_append.1 he1 with h | h
          ·exact hbk.cells e1 h
          ·exact hrow.FR e1 h)
         (by
          intro i j e1 x1 hi hx1
          rw[fH hle]
          rcases Nat.lt_or_ge i b.es.length with hlt | hge
          ·rw[List.getElem?_append_left hlt]at hi
           have hj:j<b.esz:=by
            rw[←hbk.cells e1 (List.mem_of_getElem? hi)]
            exact(List.getElem?_eq_some_iff.1 hx1).1
           have:=z0 hlt hj
           rw[if_neg (by omega)]
           obtain⟨u,hu1,ho,hv⟩:=hcells i j e1 x1 hi hx1
           rw[bN.map,if_pos harr]at hv
           exact⟨u,hu1,ho,hv⟩
          ·rw[List.getElem?_append_right hge]at hi
           obtain⟨u,hu1,hv⟩:=hrow.vr _ j e1 x1 hi hx1
           have hlt:=(List.getElem?_eq_some_iff.1 hu1).1
           have hge':b.es.length * b.esz≤i * b.esz:=Nat.mul_le_mul_right _ hge
           have hii:(i - b.es.length) * b.esz=i * b.esz - b.es.length * b.esz:=Nat.sub_mul _ _ _
           rw[if_pos (by omega),show i * b.esz+j - b.es.length * b.esz=(i - b.es.length) * b.esz+j by omega]
           exact⟨u,hu1,hrow.one u (List.mem_of_getElem? hu1),hv⟩)
        refine⟨.slice (some a) (b.es.length+new.length) c,_,by rw[hae];exact hrun,M,_,?_,by rw[get_append H _ r' _ hqr];exact h3,by rw[get_append H _ r' _ hqr];exact h4,?_⟩
        ·exact .cM (l:=l) (by simp[gp]) hbb hsp (.inr (by rw[haoff];simp)) hfit (.inr hcn) (by intro k hk;cases hk) hzl'
        ·exact hDom _ (by intro q hq' hne;simp[gp,hne,hq'])
       ·
        obtain⟨zv,hzv,hzs⟩:=xl hz hzz hzl
        obtain⟨cap,w',hcap,hrun,hgrew⟩:=ql (P:=P) (w:=w) (ty:=ty) ht hu hz hb hzv hzs (wj (a:=some a) (len:=b.es.length) (c:=c) rfl rfl hsrc) hA (by omega) hroom hb0
        obtain⟨h1,h2⟩:=vl (olds:=us0) (us:=us') (n1:=b.es.length) (n2:=new.length) (cap:=cap) hsrc.len hrow.len hzs hcap
        obtain⟨h3,h4⟩:=KE hS r'
        have hrow2:=hsrc.row.append hrow
        have hnew : ∀(i j:Nat) e x,(b.es++new)[i]?=some e→e.cells[j]?=some x →∃u,(us0.toArray++us'.toArray++Builtin.zeroCells zv.cells (cap - (b.es.length+new.length)))[i * b.esz+j]?=some u∧u.oneCell'=true∧VR M ed x u:=by
         intro i j e1 x1 hi hx1
         obtain⟨u,hu1,hv⟩:=hrow2.vr i j e1 x1 hi hx1
         exact⟨u,h2 _ _ hu1,hrow2.one u (List.mem_of_getElem? hu1),hv⟩
        obtain⟨h5,h6⟩:=h3.alloc (q:=⟨r'.d,r'.t,H.gen r'.d r'.t,0⟩) hq hgrew ⟨b.esz,b.es++new,true,b.jb⟩ hz0 cap h1 (zw.zero _ _) (by simpa using hcap) hrow2.FR
         (by intro i j e1 x1 hi hx1;rw[bN.map,if_pos rfl];exact hnew i j e1 x1 hi hx1)
        refine⟨_,w',hrun,M,_,?_,by rw[get_append H _ r' _ hqr];exact h5,by rw[get_append H _ r' _ hqr];exact h4.trans h6,?_⟩
        ·exact .cM (l:=⟨w.heap.size,b.esz,cap⟩) (by simp[gp]) rfl rfl (.inr (by simp)) hcap (.inr (by simp)) (by intro k hk;cases hk) hz0
        ·exact hDom _ (by intro q hq' hne;simp[gp,hne,hq'])
      ·cases h
     ·cases h
   ·cases h
theorem Gm{H:ab}(hS:fh M ι g w){ts:Array TypeId}{ty:TypeId}{s x y:AV}{us ux:Value}(hs:VR M ι s us)(hx:VR M ι x ux){H':ab}
 (hag : ∀r',gJ s=some r'→H.get r'≠none→g r'=H.get r') (hnw : ∀e p,mq P H.get e x=some p→mq P g e x=some p) (hfree : ∀r',gJ s=some r'→H.get r'≠none→ι ⟨r'.d,r'.t,H.gen r'.d r'.t,0⟩=none)
 (h:kn P H ts[0]? ts[1]? s x=some (y,H')) : ∃r' b k',gJ s=some r'∧H.get r'=some b∧(⟨r'.d,r'.t,H.gen r'.d r'.t,0⟩:Ref)≠r'∧H'=(⟨r'.d,r'.t,H.gen r'.d r'.t,0⟩,some k') :: H.put r' none ∧
  ∃u w' ι',(Builtin.append_ ts ty #[us,ux]).run P w = .ok u w'∧VR M ι' y u∧fh M ι' (iz (oD g r') ⟨r'.d,r'.t,H.gen r'.d r'.t,0⟩ k') w'∧pA M ι g w M ι' (iz (oD g r') ⟨r'.d,r'.t,H.gen r'.d r'.t,0⟩ k') w' ∧
   ∀q,ι q=none→q≠⟨r'.d,r'.t,H.gen r'.d r'.t,0⟩→ι' q=none:=by
 unfold kn at h
 split at h
 ·cases h
 ·rename_i e he
  simp only[Option.bind_eq_some_iff]at he
  obtain⟨t,ht,he⟩:=he
  have hu:=fS he
  split at h
  ·cases h
  ·rename_i hc
   split at h
   ·rename_i z by' zz ez new hz hb hzz hnew
    split at h
    ·cases h
    ·rename_i hcond
     have hez:ez=z:=Classical.not_not.1 fun h=>hcond (.inl h)
     have hz0:0<z:=Nat.pos_of_ne_zero fun h=>hcond (.inr (.inl h))
     have hb0:0<by':=Nat.pos_of_ne_zero fun h=>hcond (.inr (.inr (.inl h)))
     have hn0:new≠[]:=fun h=>hcond (.inr (.inr (.inr (.inl h))))
     have hzl:zz.cells.length=z:=Classical.not_not.1 fun h=>hcond (.inr (.inr (.inr (.inr h))))
     subst hez
     obtain⟨us',hrow,hA⟩:=Ce (w:=w) hS hz hz0 hx hc (hnw _ _ hnew)
     split at h
     ·rename_i r' off len
      split at h
      ·rename_i b hb'
       obtain⟨⟨hoff,harr,hbz,hlen,hroom⟩,h⟩:=Option.ite_none_right_eq_some.1 h
       injection h with h;injection h with h1 h2;subst h1;subst h2
       subst hoff
       subst hlen
       subst hbz
       have hs0:=hs
       cases hs with | cM hrl hbb hsp ha hcc hn hk hzl' =>
       rename_i l a c
       have hq:=hfree r' rfl (by rw[hb'];simp)
       have hbG:g r'=some b:=by rw[hag r' rfl (by rw[hb'];simp),hb']
       have hqr:(⟨r'.d,r'.t,H.gen r'.d r'.t,0⟩:Ref)≠r':=by intro e;rw[e,hrl]at hq;cases hq
       have hbk:=hS.at hrl hzl' hbG
       obtain⟨arr,T,fz,hh,hsz,hfz,hcells⟩:=hbk.heap
       have hpos:0<new.length:=List.length_pos_iff.2 hn0
       have hel:cT g (.cM r' 0 b.es.length none)=some (b.esz,(b.es.drop 0).take b.es.length):=by
        simp[cT,hbG,harr]
       obtain⟨us0,hsrc⟩:=lJ (P:=P) hS hs0 hz0 hel
       have hee:(b.es.drop 0).take b.es.length=b.es:=by simp
       rw[hee]at hsrc
       refine⟨r',b,⟨b.esz,b.es++new,true,b.jb⟩,rfl,hb',hqr,rfl,?_⟩
       by_cases hfit:b.es.length+new.length≤c
       ·
        have haoff:a.off=0:=by
         rcases ha with h | h
         ·omega
         ·simpa using h
        have hcn:0+c≤l.n:=by
         rcases hn with h | h
         ·omega
         ·exact h
        have hae:a=⟨l.b,0,none⟩:=by rw[jo hsp,hbb,haoff]
        have hle:0+b.es.length * b.esz+us'.length≤arr.size:=by
         rw[hrow.len,hsz,Nat.zero_add,←Nat.add_mul]
         exact Nat.mul_le_mul_right _ (by omega)
        have hrun:=wL (P:=P) (w:=w) (ty:=ty) ht hu hz hb (b:=l.b) (o:=0) hA hfit hroom hh hle hfz.1 hrow.one
        rw[Nat.zero_add]at hrun hle
        obtain⟨h3,h4⟩:=Ey (M:=M) (q:=⟨r'.d,r'.t,H.gen r'.d r'.t,0⟩) (k':=⟨b.esz,b.es++new,true,b.jb⟩) hS hbG hrl hq (arr':=cz arr (b.es.length * b.esz) us')
         ⟨arr,T,fz,hh,(gq hle).symm,rfl⟩ rfl rfl harr rfl
         (by
          intro o u ho arr1 T1 fz1 hh1 hu1
          rw[hh]at hh1;cases hh1
          rw[fH hle,if_neg (by omega)]
          exact hu1)
         (by simp;omega) (by simp) (by
          intro e1 he1
          rcases List.mem_append.1 he1 with h | h
          ·exact hbk.cells e1 h
          ·exact hrow.FR e1 h)
         (by
          intro i j e1 x1 hi hx1
          rw[fH hle]
          rcases Nat.lt_or_ge i b.es.length with hlt | hge
          ·rw[List.getElem?_append_left hlt]at hi
           have hj:j<b.esz:=by
            rw[←hbk.cells e1 (List.mem_of_getElem? hi)]
            exact(List.getElem?_eq_some_iff.1 hx1).1
           have:=z0 hlt hj
           rw[if_neg (by omega)]
           obtain⟨u,hu1,ho,hv⟩:=hcells i j e1 x1 hi hx1
           rw[bN.map,if_pos harr]at hv
           exact⟨u,hu1,ho,hv⟩
          ·rw[List.getElem?_append_right hge]at hi
           obtain⟨u,hu1,hv⟩:=hrow.vr _ j e1 x1 hi hx1
           have hlt:=(List.getElem?_eq_some_iff.1 hu1).1
           have hge':b.es.length * b.esz≤i * b.esz:=Nat.mul_le_mul_right _ hge
           have hii:(i - b.es.length) * b.esz=i * b.esz - b.es.length * b.esz:=Nat.sub_mul _ _ _
           rw[if_pos (by omega),show i * b.esz+j - b.es.length * b.esz=(i - b.es.length) * b.esz+j by omega]
           exact⟨u,hu1,hrow.one u (List.mem_of_getElem? hu1),hv⟩)
        refine⟨.slice (some a) (b.es.length+new.length) c,_,_,by rw[hae];exact hrun,?_,h3,h4,?_⟩
        ·exact .cM (l:=l) (by simp[gp]) hbb hsp (.inr (by rw[haoff];simp)) hfit (.inr hcn) (by intro k hk;cases hk) hzl'
        ·intro q hq' hne;simp[gp,hne,hq']
       ·
        obtain⟨zv,hzv,hzs⟩:=xl hz hzz hzl
        obtain⟨cap,w',hcap,hrun,hgrew⟩:=ql (P:=P) (w:=w) (ty:=ty) ht hu hz hb hzv hzs (wj (a:=some a) (len:=b.es.length) (c:=c) rfl rfl hsrc) hA (by omega) hroom hb0
        obtain⟨h1,h2⟩:=vl (olds:=us0) (us:=us') (n1:=b.es.length) (n2:=new.length) (cap:=cap) hsrc.len hrow.len hzs hcap
        obtain⟨h3,h4⟩:=KE hS r'
        have hrow2:=hsrc.row.append hrow
        have hnew : ∀(i j:Nat) e x,(b.es++new)[i]?=some e→e.cells[j]?=some x →∃u,(us0.toArray++us'.toArray++Builtin.zeroCells zv.cells (cap - (b.es.length+new.length)))[i * b.esz+j]?=some u∧u.oneCell'=true∧VR M ed x u:=by
         intro i j e1 x1 hi hx1
         obtain⟨u,hu1,hv⟩:=hrow2.vr i j e1 x1 hi hx1
         exact⟨u,h2 _ _ hu1,hrow2.one u (List.mem_of_getElem? hu1),hv⟩
        obtain⟨h5,h6⟩:=h3.alloc (q:=⟨r'.d,r'.t,H.gen r'.d r'.t,0⟩) hq hgrew ⟨b.esz,b.es++new,true,b.jb⟩ hz0 cap h1 (zw.zero _ _) (by simpa using hcap) hrow2.FR
         (by intro i j e1 x1 hi hx1;rw[bN.map,if_pos rfl];exact hnew i j e1 x1 hi hx1)
        refine⟨_,w',_,hrun,?_,h5,h4.trans h6,?_⟩
        ·exact .cM (l:=⟨w.heap.size,b.esz,cap⟩) (by simp[gp]) rfl rfl (.inr (by simp)) hcap (.inr (by simp)) (by intro k hk;cases hk) hz0
        ·intro q hq' hne;simp[gp,hne,hq']
      ·cases h
     ·cases h
   ·cases h
theorem Bw{H:ab}(hS:fh M ι H.get w)(hD:pB ι H){d tt:Nat}{t:TypeId}{n:Nat}{vs:List (Nat × AV)}{qs:Array (Nat × Value)}{x:AV}{H':ab}
 (h:ig P H ⟨d,tt,H.gen d tt,0⟩ t n (some vs)=some (x,H')) (hl:vs.length=qs.toList.length)
 (hp : ∀(i:Nat) p q,vs[i]?=some p→qs.toList[i]?=some q→p.1=q.1∧VR M ι p.2 q.2) :
 ∃u w',(Instr.buildSlice t n qs).run P w = .ok u w'∧qI M ι H w x H' u w':=by
 simp only[ig,Option.map_eq_some_iff]at h
 obtain⟨b,hb,h⟩:=h
 injection h with e1 e2
 subst e1;subst e2
 obtain⟨h1,h2,h3,e,arr,h4,h5,h6⟩:=Cf hS hb hl hp
 obtain⟨hS',hF⟩:=vm (R:=ck H.get (vs.map (·.2))) hS
 have hbb:b=⟨b.esz,b.es,true,false⟩:=by cases b;simp_all
 have hgrew:Aq w (w.alloc (.cells arr e)) (.cells arr e (0,0)):=⟨rfl,rfl,rfl,rfl⟩
 have hq:=hD.fresh d tt 0
 have hout:=s8 (r:=⟨d,tt,H.gen d tt,0⟩) hS' rfl hq hgrew h6 (fun k u hu=>by simpa using hu) (n:=n) (c:=n) h5 (zw.zero _ _) (by omega) (Nat.le_refl _) (cap:=some n) (by intro k hk;cases hk;rfl) (AD hb)
 rw[h3,←hbb]at hout
 have hD':pB ι (cq H (ck H.get (vs.map (·.2)))):=by
  intro q l hq
  rw[ab.il]
  exact hD q l hq
 obtain⟨M',ι',g1,g2,g3,g4⟩:=hout
 have hget:ab.get (((⟨d,tt,H.gen d tt,0⟩:Ref),some b) :: cq H (ck H.get (vs.map (·.2))))=oV (qS H.get (ck H.get (vs.map (·.2)))) ⟨d,tt,H.gen d tt,0⟩ [b]:=by
  rw[mG _ _ rfl]
  funext q
  simp only[ab.get,ab.eg]
  unfold iz
  by_cases hh:q=⟨d,tt,H.gen d tt,0⟩
  ·rw[if_pos hh.symm,if_pos hh]
  ·rw[if_neg (Ne.symm hh),if_neg hh]
 refine⟨_,_,h4,M',ι',g1,?_,?_,?_⟩
 ·show fh M' ι' (ab.get (_ :: _)) _
  rw[hget];exact g2
 ·show pA M ι H.get w M' ι' (ab.get (_ :: _)) _
  rw[hget];exact hF.trans g3
 ·intro q l hq'
  simp only[ab.gen,ab.il]
  cases hi:ι q with
  | some l0 =>
   have:=hD q l0 hi
   split
   ·rename_i hc;rw[←hc.1,←hc.2]at this;exact Nat.lt_succ_of_lt this
   ·exact this
  | none =>
   by_cases hk:q=⟨d,tt,H.gen d tt,0⟩
   ·subst hk
    rw[if_pos ⟨rfl,rfl⟩]
    exact Nat.lt_succ_self _
   ·rw[g4 q hi (fun k hlt e=>hk (by rw[e];simp at hlt;rw[hlt]))]at hq'
    cases hq'
theorem Row.sub{z es us}(h:Row M z es us)(n:Nat):Row M z (es.take n) (us.take (n * z)):=by
 refine⟨?_,fun e he=>h.FR e (List.mem_of_mem_take he),fun x hx=>h.one x (List.mem_of_mem_take hx),?_⟩
 ·rw[List.length_take,List.length_take,h.len]
  rcases Nat.le_total n es.length with hle | hle
  ·rw[Nat.min_eq_left hle,Nat.min_eq_left (Nat.mul_le_mul_right _ hle)]
  ·rw[Nat.min_eq_right hle,Nat.min_eq_right (Nat.mul_le_mul_right _ hle)]
 ·intro i j e x he hx
  rw[List.getElem?_take]at he
  split at he
  ·rename_i hi
   obtain⟨u,hu,hv⟩:=h.vr i j e x he hx
   have hj:j<z:=by
    rw[←h.FR e (List.mem_of_getElem? he)]
    exact(List.getElem?_eq_some_iff.1 hx).1
   refine⟨u,?_,hv⟩
   rw[List.getElem?_take,if_pos (z0 hi hj)]
   exact hu
  ·cases he
theorem MG{H:ab}(hS:fh M ι H.get w)(hD:pB ι H){ts:Array TypeId}{ty:TypeId}{s x y:AV}{us ux:Value}(hs:VR M ι s us)(hx:VR M ι x ux){H':ab}
 (h:Gk P H ts[0]? s x=some (y,H')) : ∃u w',(Builtin.copy_ ts ty #[us,ux]).run P w = .ok u w'∧qI M ι H w y H' u w':=by
 unfold Gk at h
 split at h
 ·cases h
 ·rename_i e he
  simp only[Option.bind_eq_some_iff]at he
  obtain⟨t,ht,he⟩:=he
  have hu:=fS he
  split at h
  ·cases h
  ·rename_i z hz
   split at h
   ·cases h
   ·rename_i ez src hsrc
    split at h
    ·cases h
    ·rename_i hcond
     have hez:ez=z:=Classical.not_not.1 fun h=>hcond (.inl h)
     have hz0:0<z:=Nat.pos_of_ne_zero fun h=>hcond (.inr h)
     subst hez
     have hS0 : ∃us',Src P M w ux ez src us':=by
      split at hsrc
      ·rename_i hn
       injection hsrc with hsrc
       injection hsrc with h1 h2
       subst h2
       have:ux = .slice none 0 0:=by
        cases hx<;>simp[mo]at hn
        split at hn<;>simp_all
       subst this
       exact⟨[],by simp,by simp,by simp,by intro i j e x h;simp at h,fun w'=>rfl,fun n w' hn' _=>by simp[Builtin.firstCells]⟩
      ·exact lJ hS hx hz0 hsrc
     obtain⟨us',hrow⟩:=hS0
     split at h
     ·
      cases hs
      injection h with h;injection h with h1 h2;subst h1;subst h2
      have hf:=hrow.first 0 w (Nat.zero_le _) rfl
      have hl:=hrow.lenOf w
      refine⟨.int .i64 0,w,?_,M,ι,.v rfl,hS,pA.refl,hD⟩
      simp only[Nat.zero_mul,List.take_zero]at hf
      have hm:src.length.min 0=0:=Nat.min_zero _
      simp[Builtin.copy_,ht,bH hu,cO hz,hl,hm,hf,goInt]
     ·rename_i r' off len cap
      split at h
      ·rename_i b hb
       obtain⟨⟨harr,hbz,hfr,hle⟩,h⟩:=Option.ite_none_right_eq_some.1 h
       injection h with h;injection h with h1 h2;subst h1;subst h2
       subst hbz
       cases hs with | cM hrl hbb hsp ha hcc hn hk hzl' =>
       rename_i l a c
       have hbk:=hS.at hrl hzl' hb
       obtain⟨arr,T,fz,hh,hsz,hfz,hcells⟩:=hbk.heap
       obtain⟨n,hn0⟩ : ∃n,n=Nat.min src.length len:=⟨_,rfl⟩
       have hn1:n≤src.length:=by rw[hn0];exact Nat.min_le_left _ _
       have hn2:n≤len:=by rw[hn0];exact Nat.min_le_right _ _
       rw[←hn0]
       have hf:=hrow.first n w hn1 rfl
       have hl:=hrow.lenOf w
       have hsub:=hrow.row.sub n
       have htl:(src.take n).length=n:=by rw[List.length_take,Nat.min_eq_left hn1]
       have hul:(us'.take (n * b.esz)).length=n * b.esz:=by rw[hsub.len,htl]
       have hbl:=hbk.len
       have hroom:off * b.esz+(us'.take (n * b.esz)).length≤arr.size:=by
        rw[hul,hsz,←Nat.add_mul]
        exact Nat.mul_le_mul_right _ (by omega)
       have hes : ∀i,(b.es.take off++src.take n++b.es.drop (off+n))[i]?=if off≤i∧i<off+n then (src.take n)[i - off]? else b.es[i]?:=by
        intro i
        have:=G9 (cs:=b.es) (new:=src.take n) (j:=off) (by rw[htl];omega) i
        rw[htl]at this
        rw[←this]
        unfold patch
        rw[htl]
       obtain⟨h3,h4⟩:=hS.write (k' := { b with es:=b.es.take off++src.take n++b.es.drop (off+n)}) hb hrl hzl' (arr:=cz arr (off * b.esz) (us'.take (n * b.esz))) (T:=T) (fz:=fz) rfl rfl rfl
        (by rw[gq hroom];exact hsz) (by rw[gq hroom];exact hfz) (by simp;omega)
        (by
         intro e1 he1
         simp only[List.mem_append]at he1
         rcases he1 with (h | h) | h
         ·exact hbk.cells e1 (List.mem_of_mem_take h)
         ·exact hsub.FR e1 h
         ·exact hbk.cells e1 (List.mem_of_mem_drop h))
        (by
         intro o v hv
         have:=(hbk.frozen o v hv).1
         rw[hfr]at this
         cases this)
        (by
         intro i j e1 x1 hi hx1
         rw[bN.map,if_pos harr]
         simp only at hi
         rw[hes i]at hi
         rw[fH hroom,hul]
         by_cases hr:off≤i∧i<off+n
         ·rw[if_pos hr]at hi
          obtain⟨u,hu1,hv⟩:=hsub.vr (i - off) j e1 x1 hi hx1
          have hlt:=(List.getElem?_eq_some_iff.1 hu1).1
          rw[hul]at hlt
          have h5:off * b.esz≤i * b.esz:=Nat.mul_le_mul_right _ hr.1
          have h6:(i - off) * b.esz=i * b.esz - off * b.esz:=Nat.sub_mul _ _ _
          rw[if_pos (by omega),show i * b.esz+j - off * b.esz=(i - off) * b.esz+j by omega]
          exact⟨u,hu1,hsub.one u (List.mem_of_getElem? hu1),hv⟩
         ·rw[if_neg hr]at hi
          have hj:j<b.esz:=by
           rw[←hbk.cells e1 (List.mem_of_getElem? hi)]
           exact(List.getElem?_eq_some_iff.1 hx1).1
          rw[if_neg]
          ·obtain⟨u,hu1,ho,hv⟩:=hcells i j e1 x1 hi hx1
           rw[bN.map,if_pos harr]at hv
           exact⟨u,hu1,ho,hv⟩
          ·intro hcon
           apply hr
           have e1':off * b.esz+n * b.esz=(off+n) * b.esz:=(Nat.add_mul _ _ _).symm
           constructor
           ·rcases Nat.lt_or_ge i off with h | h
            ·have:(i+1) * b.esz≤off * b.esz:=Nat.mul_le_mul_right _ h
             rw[Nat.add_mul]at this
             omega
            ·exact h
           ·rcases Nat.lt_or_ge i (off+n)with h | h
            ·exact h
            ·have:(off+n) * b.esz≤i * b.esz:=Nat.mul_le_mul_right _ h
             omega)
       have hstore:(storeCells a (us'.take (n * b.esz))).run P w = .ok () (bW w l.b (.cells (cz arr (off * b.esz) (us'.take (n * b.esz))) T fz)):=by
        by_cases h0:n=0
        ·have e0:us'.take (n * b.esz)=[]:=by rw[h0];simp
         rw[e0]
         have e1:cz arr (off * b.esz) []=arr:=by simp[cz]
         rw[e1]
         have e2:bW w l.b (.cells arr T fz)=w:=by
          unfold bW
          have:w.heap.setIfInBounds l.b (.cells arr T fz)=w.heap:=by
           apply Array.ext_getElem?
           intro k
           by_cases hk:l.b=k
           ·subst hk;rw[hh,Array.getElem?_setIfInBounds_self_of_lt hbk.lt]
           ·rw[Array.getElem?_setIfInBounds_ne hk]
          rw[this]
         rw[e2]
         simp[storeCells]
        ·have haoff:a.off=off * b.esz:=by
          rcases ha with h | h
          ·omega
          ·rw[h,hbk.esz]
         have:=kp (P:=P) (off * b.esz) (us'.take (n * b.esz)) 0 arr w hh (by simpa using hroom) hfz.1 hsub.one
         rw[Nat.add_zero]at this
         rw[jo hsp,hbb,haoff]
         exact this
       refine⟨.int .i64 n,_,?_,M,ι,.v rfl,by rw[pd];exact h3,by rw[pd];exact h4,?_⟩
       ·have hm:src.length.min len=n:=hn0.symm
        simp[Builtin.copy_,ht,bH hu,cO hz,hl,hm,hf,hstore,goInt]
       ·intro q lq hq
        rw[ab.kz _ _ _ (by rw[hb];rfl)]
        exact hD q lq hq
      ·cases h
     ·cases h
theorem K2{H:ab}(hS:fh M ι H.get w)(hD:pB ι H){ts:Array TypeId}{ty:TypeId}{s x y:AV}{us ux:Value}(hs:VR M ι s us)(hx:VR M ι x ux){H':ab}
 (h:Bv P H ts[0]? s x=some (y,H')) : ∃u w',(Builtin.copy_ ts ty #[us,ux]).run P w = .ok u w'∧qI M ι H w y H' u w':=by
 unfold Bv at h
 split at h
 ·rename_i z r' off len cap r2 off2 uK cap2 he
  simp only[Option.bind_eq_some_iff]at he
  obtain⟨e,⟨t,ht,he⟩,hz⟩:=he
  have hu:=fS he
  split at h
  ·rename_i b b2 hb hb2
   obtain⟨⟨harr,harr2,hbz,hbz2,hz0,hfr,hle0,hle2⟩,h⟩:=Option.ite_none_right_eq_some.1 h
   injection h with h;injection h with h1 h2;subst h1;subst h2
   subst hbz
   cases hs with | cM hrl hbb hsp ha hcc hn hk hzl' =>
   rename_i l a c
   cases hx with | cM hrl2 hbb2 hsp2 ha2 hcc2 hn2' hk2 hzl2 =>
   rename_i l2 a2 c2
   obtain⟨n,hn0⟩ : ∃n,n=Nat.min uK len:=⟨_,rfl⟩
   have hnl:n≤uK:=by rw[hn0];exact Nat.min_le_left _ _
   have hn2:n≤len:=by rw[hn0];exact Nat.min_le_right _ _
   rw[←hn0]at hle2 ⊢
   have hv2:VR M ι (.cM r2 off2 n none) (.slice (some a2) n c2) := .cM hrl2 hbb2 hsp2 ha2 (Nat.le_trans hnl hcc2) hn2' (fun k hk=>by cases hk) hzl2
   have hel:cT H.get (.cM r2 off2 n none)=some (b2.esz,(b2.es.drop off2).take n):=by
    simp only[cT,hb2]
    rw[if_pos ⟨harr2,hle2⟩]
   rw[hbz2]at hel
   obtain⟨us',hrow⟩:=lJ (P:=P) hS hv2 hz0 hel
   have hsl:((b2.es.drop off2).take n).length=n:=by rw[List.length_take,List.length_drop];omega
   generalize (b2.es.drop off2).take n=src at *
   have hn1:n≤src.length:=by omega
   have htk:src.take n=src:=List.take_of_length_le (by omega)
   suffices hmain : ∃u w',(Builtin.copy_ ts ty #[.slice (some a) len c,.slice (some a2) uK c2]).run P w = .ok u w'∧qI M ι H w (.v (.int .i64 n)) (H.put r' (some { b with es:=b.es.take off++src.take n++b.es.drop (off+n)})) u w' by
    rw[htk]at hmain;exact hmain
   have hcl:off+n≤l.n:=by
    rcases hn with h | h
    ·have:=(hS.at hrl hzl' hb).len;omega
    ·omega
   have hbk:=hS.at hrl hzl' hb
   obtain⟨arr,T,fz,hh,hsz,hfz,hcells⟩:=hbk.heap
   have hf:(Builtin.firstCells b.esz n (.slice (some a2) uK c2)).run P w=_:=hrow.first n w hn1 rfl
   have hl:(Builtin.lenOf (.slice (some a2) uK c2)).run P w = .ok uK w:=by simp[Builtin.lenOf]
   have hsub:=hrow.row.sub n
   have htl:(src.take n).length=n:=by rw[List.length_take,Nat.min_eq_left hn1]
   have hul:(us'.take (n * b.esz)).length=n * b.esz:=by rw[hsub.len,htl]
   have hbl:=hbk.len
   have hroom:off * b.esz+(us'.take (n * b.esz)).length≤arr.size:=by
    rw[hul,hsz,←Nat.add_mul]
    exact Nat.mul_le_mul_right _ (by omega)
   have hes : ∀i,(b.es.take off++src.take n++b.es.drop (off+n))[i]?=if off≤i∧i<off+n then (src.take n)[i - off]? else b.es[i]?:=by
    intro i
    have l1:(b.es.take off).length=off:=by rw[List.length_take];omega
    by_cases c1:i<off
    ·rw[if_neg (by omega),List.append_assoc,List.getElem?_append_left (by omega),List.getElem?_take_of_lt c1]
    ·by_cases c2:i<off+n
     ·rw[if_pos ⟨by omega,c2⟩,List.append_assoc,List.getElem?_append_right (by omega),l1,List.getElem?_append_left (by omega)]
     ·rw[if_neg (by omega),List.getElem?_append_right (by rw[List.length_append];omega),List.length_append,l1,htl,List.getElem?_drop]
      congr 1;omega
   obtain⟨h3,h4⟩:=hS.write (k' := { b with es:=b.es.take off++src.take n++b.es.drop (off+n)}) hb hrl hzl' (arr:=cz arr (off * b.esz) (us'.take (n * b.esz))) (T:=T) (fz:=fz) rfl rfl rfl
    (by rw[gq hroom];exact hsz) (by rw[gq hroom];exact hfz) (by simp only[List.length_append,List.length_take,List.length_drop];omega)
    (by
     intro e1 he1
     simp only[List.mem_append]at he1
     rcases he1 with (h | h) | h
     ·exact hbk.cells e1 (List.mem_of_mem_take h)
     ·exact hsub.FR e1 h
     ·exact hbk.cells e1 (List.mem_of_mem_drop h))
    (by
     intro o v hv
     have:=(hbk.frozen o v hv).1
     rw[hfr]at this
     cases this)
    (by
     intro i j e1 x1 hi hx1
     rw[bN.map,if_pos harr]
     simp only at hi
     rw[hes i]at hi
     rw[fH hroom,hul]
     by_cases hr:off≤i∧i<off+n
     ·rw[if_pos hr]at hi
      obtain⟨u,hu1,hv⟩:=hsub.vr (i - off) j e1 x1 hi hx1
      have hlt:=(List.getElem?_eq_some_iff.1 hu1).1
      rw[hul]at hlt
      have h5:off * b.esz≤i * b.esz:=Nat.mul_le_mul_right _ hr.1
      have h6:(i - off) * b.esz=i * b.esz - off * b.esz:=Nat.sub_mul _ _ _
      rw[if_pos (by omega),show i * b.esz+j - off * b.esz=(i - off) * b.esz+j by omega]
      exact⟨u,hu1,hsub.one u (List.mem_of_getElem? hu1),hv⟩
     ·rw[if_neg hr]at hi
      have hj:j<b.esz:=by
       rw[←hbk.cells e1 (List.mem_of_getElem? hi)]
       exact(List.getElem?_eq_some_iff.1 hx1).1
      rw[if_neg]
      ·obtain⟨u,hu1,ho,hv⟩:=hcells i j e1 x1 hi hx1
       rw[bN.map,if_pos harr]at hv
       exact⟨u,hu1,ho,hv⟩
      ·intro hcon
       apply hr
       have e1':off * b.esz+n * b.esz=(off+n) * b.esz:=(Nat.add_mul _ _ _).symm
       constructor
       ·rcases Nat.lt_or_ge i off with h | h
        ·have:(i+1) * b.esz≤off * b.esz:=Nat.mul_le_mul_right _ h
         rw[Nat.add_mul]at this
         omega
        ·exact h
       ·rcases Nat.lt_or_ge i (off+n)with h | h
        ·exact h
        ·have:(off+n) * b.esz≤i * b.esz:=Nat.mul_le_mul_right _ h
         omega)
   have hstore:(storeCells a (us'.take (n * b.esz))).run P w = .ok () (bW w l.b (.cells (cz arr (off * b.esz) (us'.take (n * b.esz))) T fz)):=by
    by_cases h0:n=0
    ·have e0:us'.take (n * b.esz)=[]:=by rw[h0];simp
     rw[e0]
     have e1:cz arr (off * b.esz) []=arr:=by simp[cz]
     rw[e1]
     have e2:bW w l.b (.cells arr T fz)=w:=by
      unfold bW
      have:w.heap.setIfInBounds l.b (.cells arr T fz)=w.heap:=by
       apply Array.ext_getElem?
       intro k
       by_cases hk:l.b=k
       ·subst hk;rw[hh,Array.getElem?_setIfInBounds_self_of_lt hbk.lt]
       ·rw[Array.getElem?_setIfInBounds_ne hk]
      rw[this]
     rw[e2]
     simp[storeCells]
    ·have haoff:a.off=off * b.esz:=by
      rcases ha with h | h
      ·omega
      ·rw[h,hbk.esz]
     have:=kp (P:=P) (off * b.esz) (us'.take (n * b.esz)) 0 arr w hh (by simpa using hroom) hfz.1 hsub.one
     rw[Nat.add_zero]at this
     rw[jo hsp,hbb,haoff]
     exact this
   refine⟨.int .i64 n,_,?_,M,ι,.v rfl,by rw[pd];exact h3,by rw[pd];exact h4,?_⟩
   ·have hm:Nat.min uK len=n:=hn0.symm
    simp[Builtin.copy_,ht,bH hu,cO hz,hl,hm,hf,hstore,goInt]
   ·intro q lq hq
    rw[ab.kz _ _ _ (by rw[hb];rfl)]
    exact hD q lq hq
  ·cases h
 ·cases h
end
end Go.Ab
