/-
  Slices grown and joined: what these functions answer. No statement of a seat is proved here.
-/
import Derived.Test.YtmkmimgokagimaaGreatMRunBytes
set_option linter.unusedVariables false
set_option linter.unusedSimpArgs false
set_option linter.unusedSectionVars false
set_option linter.unnecessarySimpa false
set_option maxRecDepth 100000
namespace Go.Proofs.YtmkmimgokagimaaGreat
open Go.Ab
attribute [local simp] bj aL aF bg bf keep thr bx aT bc da cZ cJ bD aD bM List.take_of_length_le
theorem FH{P:Program}{t t':TypeId}(hT:elOk P t=true)(hA:isInt P t'=true)(hz:(iT P t).cells.all AV.one=true)(wk:Bool)(H:Heap)(r:Ref)(n:Int)(h0:0<n)(h1:n≤cJ)(hb:n.toNat * elBy P t≤cJ) :
 cO P wk H r (some t) (some t') aNil (aI n)=some (.osl r 0 n.toNat none,({ r with k:=0},some ⟨elZ P t,List.replicate n.toNat (iT P t),true,false⟩) :: H):=by
 unfold elOk at hT
 obtain⟨e,zz,e1,e2,e3,e4,e5,e6,e7,e8⟩:=iB hT
 have ez:iT P t=zz:=by unfold iT;rw[e1,Option.bind_some,e4];rfl
 rw[ez]at hz ⊢
 have hun:(P.underlying t').isNone=false:=by
  unfold isInt at hA
  cases h:P.underlying t' with
  | none=>rw[h]at hA;cases hA
  | some d=>rfl
 have hc : ¬((P.underlying t').isNone=true∨isInt P t'≠isNum (aI n)):=by rw[hun,hA];simp[isNum]
 have hd : ¬(elZ P t≠elZ P t∨elZ P t=0∨elBy P t=0∨zz.cells.length≠elZ P t):=by simp[e5,e7,e8]
 have hnew:oo P H.get e (aI n)=some (elZ P t,List.replicate n.toNat zz):=by
  show(match fC P e,aP P e with | some w,some z=>if 0≤n∧n≤cJ∧w.cells.length=z∧w.cells.all AV.one then some (z,List.replicate n.toNat w) else none | _,_=>none)=_
  rw[e4,e2]
  exact if_pos ⟨by omega,h1,by simp[e5,e7,e8],hz⟩
 have hn:List.replicate n.toNat zz≠[]:=by
  intro h
  have:=congrArg List.length h
  simp only[List.length_replicate,List.length_nil]at this
  omega
 simp only[cO,gw,Option.bind_some,e1,Option.map_some,Option.getD_some,if_neg hc,e2,e3,e4,hnew,if_neg hd,if_neg hn,List.length_replicate,if_pos hb]
 rfl
@[simp] theorem Tb(g:Get)(r:Ref):aA env.P false g r .cap #[170] [aNil]=some (aI 0,[]):=by kernel_rfl
theorem RN(n:Int)(h0:0<n)(h1:n<1000000):limf env 225 [aNil,aI n]=some (.fsl 1 [] none):=by
 refine aw (fn:=Tryz.f225) (c:=iV) rfl (by kernel_rfl) (by kernel_rfl) (by kernel_rfl) (by kernel_rfl) ?_;refine m6 _ _ _ _ fun g=>?_
 have h2 : ¬n<0:=by omega
 have e1:=IntWalk.i64_in n (by omega)
 have w0:IntKind.i64.wrap 0=0:=rfl
 have h3:n≤140737488355328:=by omega
 have h4:n.toNat≤140737488355328:=by omega
 have h5:0<n.toNat:=by omega
 have hm:=FH (P:=env.P) (t:=170) (t':=3) (by simp) (by simp) (by simp) true [] ⟨0,22,0,0⟩ n h0 h3 (by simp;omega)
 simp[af,ah,ad,ae,ab, *,iX, -hm]
 refine DY hm ?_
 simp
 all_goals omega
def ly(s:List (List UInt8 × AV)):List UInt8:=s.flatMap (·.1)
theorem Km{ps:List (List UInt8 × AV)}{x0:AV}(hx:Sl 1 (ps.map (·.2)) x0)(hp : ∀p∈ps,Sl 1 (by8 p.1) p.2)(hl:ps.length<100000)(ht:(ly ps).length<1000000){Q:AV→Heap→Prop} :
 ∀(s:List (List UInt8 × AV)) (k:Nat) (i:Int) (acc:List UInt8) (gg:Nat) (H:Heap),ps.drop k=s→k≤ps.length→i=k→acc.length+(ly s).length=(ly ps).length→Fr H→H.get ⟨0,24,gg,0⟩=some ⟨1,by8 acc,true,false⟩ →
 (∀g H',H'.get ⟨0,24,g,0⟩=some ⟨1,by8 (acc++ly s),true,false⟩→Q (.osl ⟨0,24,g,0⟩ 0 (acc++ly s).length none) H') →
 GoL env Tryz.f209 0 b7 [(27,aI i),(6,.osl ⟨0,24,gg,0⟩ 0 acc.length none),(25,x0),(26,aI ps.length)] H Q:=by
 intro s
 induction s with
 | nil =>
  rintro k i acc gg H hs hk rfl ha hF hr hQ
  obtain rfl:=drop_nil hs hk
  refine gh _ _ _ _ _ _ fun g=>?_
  have hQ':=hQ gg H (by simpa [ly] using hr)
  simp only[ly,List.flatMap_nil,List.append_nil]at hQ'
  clear hQ hr
  simp[af,ah,ad,ae,ab, *,cW]
  all_goals exact hQ'
 | cons p s ih =>
  rintro k i acc gg H hs hk rfl ha hF hr hQ
  obtain⟨hlt,hg,hs',hg'⟩:=drop_cons hs
  have hpx:=hp p (by rw[←hg];exact List.getElem_mem _)
  obtain⟨b,x⟩:=p
  simp only at hpx
  have e3:=IntWalk.i64_in ((k:Int)+1) (by omega)
  have hfl:ly ((b,x) :: s)=b++ly s:=rfl
  rw[hfl]at ha hQ
  rw[List.length_append]at ha
  have hrd:fD (ps.map (·.2)) k 0 1 false=some x:=by simp[hg',hpx.r]
  have hxl:(ps.map (·.2)).length=ps.length:=by simp
  have hbl:(by8 b).length=b.length:=by simp
  have hal:(by8 acc).length=acc.length:=by simp
  have l6:(H.get ⟨0,24,gg,0⟩).isSome=true:=by rw[hr];rfl
  have hih:=fun g H'=>ih (k+1) ((k:Int)+1) (acc++b) g H' hs' (by omega) (by simp) (by simp;omega)
  have hQ' : ∀g H',H'.get ⟨0,24,g,0⟩=some ⟨1,by8 ((acc++b)++ly s),true,false⟩→Q (.osl ⟨0,24,g,0⟩ 0 ((acc++b)++ly s).length none) H':=fun g H' h=>by
   have:=hQ g H' (by rw[←List.append_assoc];exact h)
   rw[←List.append_assoc]at this
   exact this
  clear hQ ih hp hs
  refine gh _ _ _ _ _ _ fun g=>?_
  have hel:=hpx.pk
  by_cases hb:b=[]
  ·subst hb
   have hfin:=hih gg H hF
   simp only[List.append_nil]at hfin hQ'
   have hfin':=hfin hr hQ'
   clear hfin hih hQ'
   simp[af,ah,ad,ae,ab, *,cW,hx.r,hx.idx,hpx.r,hpx.pk]
  ·have hbn:by8 b≠[]:=by simpa using hb
   have f4:oF 1 1 acc.length true none (some ⟨1,by8 acc,true,false⟩) (some (by8 b)):=by
    rw[aT,hbl,hal];exact⟨rfl,rfl,.inr ⟨by simp;omega,rfl⟩⟩
   have hfin:=hih (H.gen 0 24)
   have e8:by8 (acc++b)=by8 acc++by8 b:=List.map_append ..
   rw[e8]at hfin
   rw[show(acc++b).length=(by8 acc).length+(by8 b).length by rw[hbl,hal,List.length_append]]at hfin
   clear hih hbl hal ha e8
   generalize by8 acc=A at *
   generalize by8 b=B at *
   simp[af,ah,ad,ae,ab, *,cW,hx.r,hx.idx,hpx.r,hpx.pk]
   exact hfin _ (by simp(maxDischargeDepth:=12) [Heap.an,au,ak,Fr.nil,az,af,ah,ad,ae,ar,ao,ab, *]) (by simp) hQ'
theorem Kn{ps:List (List UInt8 × AV)}{x0:AV}(hx:Sl 1 (ps.map (·.2)) x0)(hp : ∀p∈ps,Sl 1 (by8 p.1) p.2)(hl:ps.length<100000)(ht:(ly ps).length<1000000)(h0:0<(ly ps).length){H:Heap}{Q:AV→Heap→Prop}
 (hend : ∀H',Fr H'→H'.get ⟨0,24,H.gen 0 24,0⟩=some ⟨1,[],true,false⟩→GoL env Tryz.f209 0 b7 [(27,aI 0),(6,.osl ⟨0,24,H.gen 0 24,0⟩ 0 0 none),(25,x0),(26,aI ps.length)] H' Q) :
 ∀(s:List (List UInt8 × AV)) (k:Nat) (i n:Int),ps.drop k=s→k≤ps.length→i=k→0≤n→n+(ly s).length=(ly ps).length→Fr H →
 GoL env Tryz.f209 0 cp [(11,aI i),(3,aI n),(9,x0),(0,x0),(10,aI ps.length)] H Q:=by
 intro s
 induction s with
 | nil =>
  rintro k i n hs hk rfl hn0 hn hF
  obtain rfl:=drop_nil hs hk
  refine gq _ _ _ _ _ _ _ fun g=>?_
  have hn':n=(ly ps).length:=by simpa [ly] using hn
  have hG:=RN n (by omega) (by omega)
  have hxl:(ps.map (·.2)).length=ps.length:=by simp
  clear hn' hn hp
  simp[af,ah,ad,ae,ab, *,dZ,hx.r]
  exact hend _ (by simp(maxDischargeDepth:=12) [Heap.an,au,ak,Fr.nil,az,af,ah,ad,ae,ar,ao,ab, *]) (by simp)
 | cons p s ih =>
  rintro k i n hs hk rfl hn0 hn hF
  obtain⟨hlt,hg,hs',hg'⟩:=drop_cons hs
  have hpx:=hp p (by rw[←hg];exact List.getElem_mem _)
  obtain⟨b,x⟩:=p
  simp only at hpx
  have hfl:ly ((b,x) :: s)=b++ly s:=rfl
  rw[hfl,List.length_append]at hn
  have e3:=IntWalk.i64_in ((k:Int)+1) (by omega)
  have e4:=IntWalk.i64_in (n+(b.length:Int)) (by omega)
  have hrd:fD (ps.map (·.2)) k 0 1 false=some x:=by simp[hg',hpx.r]
  have hxl:(ps.map (·.2)).length=ps.length:=by simp
  have hbl:(by8 b).length=b.length:=by simp
  have hneg : ¬n+(b.length:Int)<0:=by omega
  have hfin:=ih (k+1) ((k:Int)+1) (n+(b.length:Int)) hs' (by omega) (by simp) (by omega) (by omega) hF
  refine gq _ _ _ _ _ _ _ fun g=>?_
  clear ih hend hp hs hn
  simp[af,ah,ad,ae,ab, *,dZ,hx.r,hx.idx,hpx.r]
  all_goals exact hfin
theorem F3{ps:List (List UInt8 × AV)}{x0:AV}(hx:Sl 1 (ps.map (·.2)) x0)(hp : ∀p∈ps,Sl 1 (by8 p.1) p.2)(hl:ps.length<100000)(ht:(ly ps).length<1000000)(h0:0<(ly ps).length):limf env 209 [x0]=some (.fsl 1 (by8 (ly ps)) none):=by
 refine aw (fn:=Tryz.f209) (c:=dx) rfl (by kernel_rfl) (by kernel_rfl) (by kernel_rfl) (by kernel_rfl) ?_;refine mJ _ _ _ fun g=>?_
 have hxl:(ps.map (·.2)).length=ps.length:=by simp
 have hxn:=hx.len
 have hfl:(by8 (ly ps)).length=(ly ps).length:=by simp
 have h2:=fun H' Q hF hr=>Km hx hp hl ht (Q:=Q) ps 0 0 [] 0 H' rfl (by omega) rfl (by simp) hF hr
 have h1:=fun Q hend=>Kn hx hp hl ht h0 (H:=[]) (Q:=Q) hend ps 0 0 0 rfl (by omega) rfl (by omega) (by omega) Fr.nil
 clear hp
 simp[af,ah,ad,ae,ab, *,ia,hx.r]
 refine h1 _ fun H' hF hr=>h2 H' _ hF hr fun g' H'' hr'=>?_
 rw[List.nil_append]at hr' ⊢
 rw[←hfl]
 generalize by8 (ly ps)=B at *
 simp[hr']
end Go.Proofs.YtmkmimgokagimaaGreat
