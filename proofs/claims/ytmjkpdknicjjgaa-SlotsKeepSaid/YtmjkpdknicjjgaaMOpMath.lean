/-
  Slices grown and joined: what these functions answer. No statement of a seat is proved here.
-/
import Derived.Test.YtmjkpdknicjjgaaRunBytes
import Derived.Test.YtmjkpdknicjjgaaMIdsFns
set_option linter.unusedVariables false
set_option linter.unusedSimpArgs false
set_option linter.unusedSectionVars false
set_option linter.unnecessarySimpa false
set_option maxRecDepth 100000
namespace Go.Proofs.Ytmjkpdknicjjgaa
open Go.Ab
attribute [local simp] cb bC bG bF keep thr cy bB bH eF eE bX cx aO cZ List.take_of_length_le
theorem Ej {P:Program} {t t':TypeId} (hT:elOk P t=true) (hA:isInt P t'=true) (hz:(fG P t).cells.all AV.one=true) (wk:Bool) (H:Heap) (r:Ref) (n:Int) (h0:0<n) (h1:n≤bX) (hb:n.toNat * elBy P t≤bX) :
 bQ P wk H r (some t) (some t') aNil (aI n)=some (.osl r 0 n.toNat none,({ r with k:=0},some ⟨elZ P t,List.replicate n.toNat (fG P t),true,false⟩) :: H):=by
 unfold elOk at hT
 obtain ⟨e,zz,e1,e2,e3,e4,e5,e6,e7,e8⟩:=fv hT
 have ez:fG P t=zz:=by unfold fG;rw [e1,Option.bind_some,e4];rfl
 rw [ez] at hz ⊢
 have hun:(P.underlying t').isNone=false:=by
  unfold isInt at hA
  cases h:P.underlying t' with
  | none=>rw [h] at hA;cases hA
  | some d=>rfl
 have hc : ¬((P.underlying t').isNone=true∨isInt P t'≠isNum (aI n)):=by rw [hun,hA];simp [isNum]
 have hd : ¬(elZ P t≠elZ P t∨elZ P t=0∨elBy P t=0∨zz.cells.length≠elZ P t):=by simp [e5,e7,e8]
 have hnew:lX P H.get e (aI n)=some (elZ P t,List.replicate n.toNat zz):=by
  show (match eR P e,aV P e with | some w,some z=>if 0≤n∧n≤bX∧w.cells.length=z∧w.cells.all AV.one then some (z,List.replicate n.toNat w) else none | _,_=>none)=_
  rw [e4,e2]
  exact if_pos ⟨by omega,h1,by simp [e5,e7,e8],hz⟩
 have hn:List.replicate n.toNat zz≠[]:=by
  intro h
  have:=congrArg List.length h
  simp only [List.length_replicate,List.length_nil] at this
  omega
 simp only [bQ,dY,Option.bind_some,e1,Option.map_some,Option.getD_some,if_neg hc,e2,e3,e4,hnew,if_neg hd,if_neg hn,List.length_replicate,if_pos hb]
 rfl
@[simp] theorem RT (g:Get) (r:Ref):ay env.P false g r .cap #[68] [aNil]=some (aI 0,[]):=by kernel_rfl
theorem QF (n:Int) (h0:0<n) (h1:n<1000000):limf env 65 [aNil,aI n]=some (.fsl 1 [] none):=by
 refine aG (fn:=Try.f65) (c:=fl) rfl (by kernel_rfl) (by kernel_rfl) (by kernel_rfl) (by kernel_rfl) ?_;refine mv _ _ _ _ fun g=>?_
 have h2 : ¬n<0:=by omega
 have e1:=IntWalk.i64_in n (by omega)
 have w0:IntKind.i64.wrap 0=0:=rfl
 have h3:n≤140737488355328:=by omega
 have h4:n.toNat≤140737488355328:=by omega
 have h5:0<n.toNat:=by omega
 have hm:=Ej (P:=env.P) (t:=68) (t':=3) (by simp) (by simp) (by simp) true [] ⟨0,22,0,0⟩ n h0 h3 (by simp;omega)
 simp [af,ah,ad,ae,aa, *,fm, -hm]
 refine E4 hm ?_
 simp
 all_goals omega
def jt (s:List (List UInt8 × AV)):List UInt8:=s.flatMap (·.1)
theorem Ji {ps:List (List UInt8 × AV)} {x0:AV} (hx:Sl 1 (ps.map (·.2)) x0) (hp : ∀p∈ps,Sl 1 (by8 p.1) p.2) (hl:ps.length<100000) (ht:(jt ps).length<1000000) {Q:AV→Heap→Prop} :
 ∀(s:List (List UInt8 × AV)) (k:Nat) (i:Int) (acc:List UInt8) (gg:Nat) (H:Heap),ps.drop k=s→k≤ps.length→i=k→acc.length+(jt s).length=(jt ps).length→Fr H→H.get ⟨0,24,gg,0⟩=some ⟨1,by8 acc,true,false⟩ →
 (∀g H',H'.get ⟨0,24,g,0⟩=some ⟨1,by8 (acc++jt s),true,false⟩→Q (.osl ⟨0,24,g,0⟩ 0 (acc++jt s).length none) H') →
 GoL env Try.f47 0 bI [(27,aI i),(6,.osl ⟨0,24,gg,0⟩ 0 acc.length none),(25,x0),(26,aI ps.length)] H Q:=by
 intro s
 induction s with
 | nil =>
  rintro k i acc gg H hs hk rfl ha hF hr hQ
  obtain rfl:=drop_nil hs hk
  refine fQ _ _ _ _ _ _ fun g=>?_
  have hQ':=hQ gg H (by simpa [jt] using hr)
  simp only [jt,List.flatMap_nil,List.append_nil] at hQ'
  clear hQ hr
  simp [af,ah,ad,ae,aa, *,cw]
  all_goals exact hQ'
 | cons p s ih =>
  rintro k i acc gg H hs hk rfl ha hF hr hQ
  obtain ⟨hlt,hg,hs',hg'⟩:=drop_cons hs
  have hpx:=hp p (by rw [←hg];exact List.getElem_mem _)
  obtain ⟨b,x⟩:=p
  simp only at hpx
  have e3:=IntWalk.i64_in ((k:Int)+1) (by omega)
  have hfl:jt ((b,x) :: s)=b++jt s:=rfl
  rw [hfl] at ha hQ
  rw [List.length_append] at ha
  have hrd:ed (ps.map (·.2)) k 0 1 false=some x:=by simp [hg',hpx.r]
  have hxl:(ps.map (·.2)).length=ps.length:=by simp
  have hbl:(by8 b).length=b.length:=by simp
  have hal:(by8 acc).length=acc.length:=by simp
  have l6:(H.get ⟨0,24,gg,0⟩).isSome=true:=by rw [hr];rfl
  have hih:=fun g H'=>ih (k+1) ((k:Int)+1) (acc++b) g H' hs' (by omega) (by simp) (by simp;omega)
  have hQ' : ∀g H',H'.get ⟨0,24,g,0⟩=some ⟨1,by8 ((acc++b)++jt s),true,false⟩→Q (.osl ⟨0,24,g,0⟩ 0 ((acc++b)++jt s).length none) H':=fun g H' h=>by
   have:=hQ g H' (by rw [←List.append_assoc];exact h)
   rw [←List.append_assoc] at this
   exact this
  clear hQ ih hp hs
  refine fQ _ _ _ _ _ _ fun g=>?_
  have hel:=hpx.mI
  by_cases hb:b=[]
  ·subst hb
   have hfin:=hih gg H hF
   simp only [List.append_nil] at hfin hQ'
   have hfin':=hfin hr hQ'
   clear hfin hih hQ'
   simp [af,ah,ad,ae,aa, *,cw,hx.r,hx.idx,hpx.r,hpx.mI]
  ·have hbn:by8 b≠[]:=by simpa using hb
   have f4:rY 1 1 acc.length true none (some ⟨1,by8 acc,true,false⟩) (some (by8 b)):=by
    rw [bB,hbl,hal];exact ⟨rfl,rfl,.inr ⟨by simp;omega,rfl⟩⟩
   have hfin:=hih (H.gen 0 24)
   have e8:by8 (acc++b)=by8 acc++by8 b:=List.map_append ..
   rw [e8] at hfin
   rw [show (acc++b).length=(by8 acc).length+(by8 b).length by rw [hbl,hal,List.length_append]] at hfin
   clear hih hbl hal ha e8
   generalize by8 acc=A at *
   generalize by8 b=B at *
   simp [af,ah,ad,ae,aa, *,cw,hx.r,hx.idx,hpx.r,hpx.mI]
   exact hfin _ (by simp (maxDischargeDepth:=12) [Heap.aj,az,ar,Fr.nil,aL,af,ah,ad,ae,aA,aq,aa, *]) (by simp) hQ'
theorem Jj {ps:List (List UInt8 × AV)} {x0:AV} (hx:Sl 1 (ps.map (·.2)) x0) (hp : ∀p∈ps,Sl 1 (by8 p.1) p.2) (hl:ps.length<100000) (ht:(jt ps).length<1000000) (h0:0<(jt ps).length) {H:Heap} {Q:AV→Heap→Prop}
 (hend : ∀H',Fr H'→H'.get ⟨0,24,H.gen 0 24,0⟩=some ⟨1,[],true,false⟩→GoL env Try.f47 0 bI [(27,aI 0),(6,.osl ⟨0,24,H.gen 0 24,0⟩ 0 0 none),(25,x0),(26,aI ps.length)] H' Q) :
 ∀(s:List (List UInt8 × AV)) (k:Nat) (i n:Int),ps.drop k=s→k≤ps.length→i=k→0≤n→n+(jt s).length=(jt ps).length→Fr H →
 GoL env Try.f47 0 bL [(11,aI i),(3,aI n),(9,x0),(0,x0),(10,aI ps.length)] H Q:=by
 intro s
 induction s with
 | nil =>
  rintro k i n hs hk rfl hn0 hn hF
  obtain rfl:=drop_nil hs hk
  refine fU _ _ _ _ _ _ _ fun g=>?_
  have hn':n=(jt ps).length:=by simpa [jt] using hn
  have hG:=QF n (by omega) (by omega)
  have hxl:(ps.map (·.2)).length=ps.length:=by simp
  clear hn' hn hp
  simp [af,ah,ad,ae,aa, *,da,hx.r]
  exact hend _ (by simp (maxDischargeDepth:=12) [Heap.aj,az,ar,Fr.nil,aL,af,ah,ad,ae,aA,aq,aa, *]) (by simp)
 | cons p s ih =>
  rintro k i n hs hk rfl hn0 hn hF
  obtain ⟨hlt,hg,hs',hg'⟩:=drop_cons hs
  have hpx:=hp p (by rw [←hg];exact List.getElem_mem _)
  obtain ⟨b,x⟩:=p
  simp only at hpx
  have hfl:jt ((b,x) :: s)=b++jt s:=rfl
  rw [hfl,List.length_append] at hn
  have e3:=IntWalk.i64_in ((k:Int)+1) (by omega)
  have e4:=IntWalk.i64_in (n+(b.length:Int)) (by omega)
  have hrd:ed (ps.map (·.2)) k 0 1 false=some x:=by simp [hg',hpx.r]
  have hxl:(ps.map (·.2)).length=ps.length:=by simp
  have hbl:(by8 b).length=b.length:=by simp
  have hneg : ¬n+(b.length:Int)<0:=by omega
  have hfin:=ih (k+1) ((k:Int)+1) (n+(b.length:Int)) hs' (by omega) (by simp) (by omega) (by omega) hF
  refine fU _ _ _ _ _ _ _ fun g=>?_
  clear ih hend hp hs hn
  simp [af,ah,ad,ae,aa, *,da,hx.r,hx.idx,hpx.r]
  all_goals exact hfin
theorem zR {ps:List (List UInt8 × AV)} {x0:AV} (hx:Sl 1 (ps.map (·.2)) x0) (hp : ∀p∈ps,Sl 1 (by8 p.1) p.2) (hl:ps.length<100000) (ht:(jt ps).length<1000000) (h0:0<(jt ps).length):limf env 47 [x0]=some (.fsl 1 (by8 (jt ps)) none):=by
 refine aG (fn:=Try.f47) (c:=cI) rfl (by kernel_rfl) (by kernel_rfl) (by kernel_rfl) (by kernel_rfl) ?_;refine lD _ _ _ fun g=>?_
 have hxl:(ps.map (·.2)).length=ps.length:=by simp
 have hxn:=hx.len
 have hfl:(by8 (jt ps)).length=(jt ps).length:=by simp
 have h2:=fun H' Q hF hr=>Ji hx hp hl ht (Q:=Q) ps 0 0 [] 0 H' rfl (by omega) rfl (by simp) hF hr
 have h1:=fun Q hend=>Jj hx hp hl ht h0 (H:=[]) (Q:=Q) hend ps 0 0 0 rfl (by omega) rfl (by omega) (by omega) Fr.nil
 clear hp
 simp [af,ah,ad,ae,aa, *,eN,hx.r]
 refine h1 _ fun H' hF hr=>h2 H' _ hF hr fun g' H'' hr'=>?_
 rw [List.nil_append] at hr' ⊢
 rw [←hfl]
 generalize by8 (jt ps)=B at *
 simp [hr']
end Go.Proofs.Ytmjkpdknicjjgaa
set_option linter.unusedVariables false
set_option linter.unusedSimpArgs false
namespace Go.Ab
structure Lab where
 lv:UInt8
 cats:UInt32
deriving DecidableEq
structure Opn where
 kind:UInt8
 h:Han
 serial:Int
 s:Spn
 a:Idd
 to:Lab
 l:List Int
deriving DecidableEq
def ly (a:Idd):Bool:=decide (a.h.lv=0)&&decide (a.h.cats=0)&&decide (a.h.num=0)&&decide (a.n=0)
def AN (t:Lab):Bool:=decide (t.lv=0)&&decide (t.cats=0)
def Kc (a b:Han):Bool:=decide (a.lv=b.lv)&&decide (a.cats=b.cats)&&decide (a.num=b.num)
theorem pU (a:Idd):ly a=true↔a=oL:=by
 obtain ⟨⟨a,b,c⟩,d⟩:=a
 simp [ly,oL,and_assoc]
def Ed (o:Opn):Bool:=ly o.a&&decide (o.l=[])
def insB (o:Opn):Bool:=AN o.to&&((ly o.a||idB o.a)&&(Kc o.s.f.h o.h&&(decide ((o.l.length:Int)=o.s.many)&&rowB o.l)))
def delB (o:Opn):Bool:=AN o.to&&Ed o
def raiB (o:Opn):Bool:=Ed o&&decide (o.to.lv≤15)
def mayB (o:Opn):Bool:=if o.kind=1 then insB o else if o.kind=2 then delB o else if o.kind=3 then raiB o else false
def opB (o:Opn):Bool:=gS o.h&&(decide (1≤o.serial)&&(decide (o.serial<16777216)&&(pS o.s&&mayB o)))
theorem z0 {P:Program} {t:TypeId} (h1:(tagg P t).isSome=true) (h2:(aV P t).isSome=true) (cs:List AV) (off:Nat):uc P t cs off=KP cs off ((aV P t).getD 0) ((tagg P t).getD false):=by
 obtain ⟨b,hb⟩:=Option.isSome_iff_exists.1 h1
 obtain ⟨n,hn⟩:=Option.isSome_iff_exists.1 h2
 simp only [uc,hb,hn,Option.getD_some]
 cases b<;>rfl
theorem wb {P:Program} {t:TypeId} (h1:((tarr P t).bind fun p=>aV P p.2).isSome=true) (cs:List AV) (k:UInt8) (hk:k.toNat<((tarr P t).getD (0,0)).1) :
 ri P t (some (.agg cs)) (some (a8 k))=qVal (uc P ((tarr P t).getD (0,0)).2 cs (k.toNat * (aV P ((tarr P t).getD (0,0)).2).getD 0)):=by
 cases ht:tarr P t with
 | none=>rw [ht] at h1;simp at h1
 | some p =>
  obtain ⟨n,e⟩:=p
  rw [ht] at h1 hk
  simp only [Option.bind_some,Option.getD_some] at h1 hk
  obtain ⟨s,hs⟩:=Option.isSome_iff_exists.1 h1
  unfold ri a8
  simp only [Option.bind_some,rb,ht,hs,Option.getD_some]
  rw [if_pos (by omega)]
  simp
@[simp] theorem Rp (r:Ref) (n:Nat) (f:Fn) (a b:List AV) (bs:List Blk):bc r n (.fn f a b) bs=(.fn f a b,bs):=by cases n<;>rfl
end Go.Ab
