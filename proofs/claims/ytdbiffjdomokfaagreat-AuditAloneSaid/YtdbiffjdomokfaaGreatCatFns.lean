/-
  Slices grown and joined: what these functions answer. No statement of a seat is proved here.
-/
import Derived.Test.YtdbiffjdomokfaaGreatMRunBytes
set_option linter.unusedVariables false
set_option linter.unusedSimpArgs false
set_option linter.unusedSectionVars false
set_option linter.unnecessarySimpa false
set_option maxRecDepth 100000
namespace Go.Proofs.YtdbiffjdomokfaaGreat
open Go.Ab
attribute [local simp] bD bp bl bC bB cV lj bP bt bA dc db cg bR aV cm List.take_of_length_le
theorem Iu{P:Program}{t t':TypeId}(hT:nV P t=true)(hA:isInt P t'=true)(hz:(iG P t).cells.all AV.one=true)(wk:Bool)(H:ab)(r:Ref)(n:Int)(h0:0<n)(h1:n≤cg)(hb:n.toNat * qx P t≤cg) :
 cS P wk H r (some t) (some t') cP (aI n)=some (.cM r 0 n.toNat none,({ r with k:=0},some ⟨lK P t,List.replicate n.toNat (iG P t),true,false⟩) :: H):=by
 unfold nV at hT
 obtain⟨e,zz,e1,e2,e3,e4,e5,e6,e7,e8⟩:=jk hT
 have ez:iG P t=zz:=by unfold iG;rw[e1,Option.bind_some,e4];rfl
 rw[ez]at hz ⊢
 have hun:(P.underlying t').isNone=false:=by
  unfold isInt at hA
  cases h:P.underlying t' with
  | none=>rw[h]at hA;cases hA
  | some d=>rfl
 have hc : ¬((P.underlying t').isNone=true∨isInt P t'≠isNum (aI n)):=by rw[hun,hA];simp[isNum]
 have hd : ¬(lK P t≠lK P t∨lK P t=0∨qx P t=0∨zz.cells.length≠lK P t):=by simp[e5,e7,e8]
 have hnew:mq P H.get e (aI n)=some (lK P t,List.replicate n.toNat zz):=by
  show(match eG P e,aU P e with | some w,some z=>if 0≤n∧n≤cg∧w.cells.length=z∧w.cells.all AV.one then some (z,List.replicate n.toNat w) else none | _,_=>none)=_
  rw[e4,e2]
  exact if_pos ⟨by omega,h1,by simp[e5,e7,e8],hz⟩
 have hn:List.replicate n.toNat zz≠[]:=by
  intro h
  have:=congrArg List.length h
  simp only[List.length_replicate,List.length_nil]at this
  omega
 simp only[cS,gK,Option.bind_some,e1,Option.map_some,Option.getD_some,if_neg hc,e2,e3,e4,hnew,if_neg hd,if_neg hn,List.length_replicate,if_pos hb]
 rfl
@[simp] theorem VQ(g:dk)(r:Ref):aJ env.P false g r .cap #[137] [cP]=some (aI 0,[]):=by kernel_rfl
theorem SQ(n:Int)(h0:0<n)(h1:n<1000000):bj env 138 [cP,aI n]=some (.fsl 1 [] none):=by
 refine aK (fn:=Tryz.f138) (c:=lf) rfl (by kernel_rfl) (by kernel_rfl) (by kernel_rfl) (by kernel_rfl) ?_;refine pM _ _ _ _ fun g=>?_
 have h2 : ¬n<0:=by omega
 have e1:=IntWalk.i64_in n (by omega)
 have w0:IntKind.i64.wrap 0=0:=rfl
 have h3:n≤140737488355328:=by omega
 have h4:n.toNat≤140737488355328:=by omega
 have h5:0<n.toNat:=by omega
 have hm:=Iu (P:=env.P) (t:=137) (t':=3) (by simp) (by simp) (by simp) true [] ⟨0,22,0,0⟩ n h0 h3 (by simp;omega)
 simp[ah,ai,ae,af,ad, *,lg, -hm]
 refine pH hm ?_
 simp
 all_goals omega
def ji(s:List (List UInt8 × AV)):List UInt8:=s.flatMap (·.1)
theorem Mj{ps:List (List UInt8 × AV)}{x0:AV}(hx:Sl 1 (ps.map (·.2)) x0)(hp : ∀p∈ps,Sl 1 (ia p.1) p.2)(hl:ps.length<100000)(ht:(ji ps).length<1000000){Q:AV→ab→Prop} :
 ∀(s:List (List UInt8 × AV)) (k:Nat) (i:Int) (acc:List UInt8) (gg:Nat) (H:ab),ps.drop k=s→k≤ps.length→i=k→acc.length+(ji s).length=(ji ps).length→Fr H→H.get ⟨0,24,gg,0⟩=some ⟨1,ia acc,true,false⟩ →
 (∀g H',H'.get ⟨0,24,g,0⟩=some ⟨1,ia (acc++ji s),true,false⟩→Q (.cM ⟨0,24,g,0⟩ 0 (acc++ji s).length none) H') →
 bT env Tryz.f120 0 dw [(27,aI i),(6,.cM ⟨0,24,gg,0⟩ 0 acc.length none),(25,x0),(26,aI ps.length)] H Q:=by
 intro s
 induction s with
 | nil =>
  rintro k i acc gg H hs hk rfl ha hF hr hQ
  obtain rfl:=drop_nil hs hk
  refine je _ _ _ _ _ _ fun g=>?_
  have hQ':=hQ gg H (by simpa [ji] using hr)
  simp only[ji,List.flatMap_nil,List.append_nil]at hQ'
  clear hQ hr
  simp[ah,ai,ae,af,ad, *,eB]
  all_goals exact hQ'
 | cons p s ih =>
  rintro k i acc gg H hs hk rfl ha hF hr hQ
  obtain⟨hlt,hg,hs',hg'⟩:=drop_cons hs
  have hpx:=hp p (by rw[←hg];exact List.getElem_mem _)
  obtain⟨b,x⟩:=p
  simp only at hpx
  have e3:=IntWalk.i64_in ((k:Int)+1) (by omega)
  have hfl:ji ((b,x) :: s)=b++ji s:=rfl
  rw[hfl]at ha hQ
  rw[List.length_append]at ha
  have hrd:eL (ps.map (·.2)) k 0 1 false=some x:=by simp[hg',hpx.r]
  have hxl:(ps.map (·.2)).length=ps.length:=by simp
  have hbl:(ia b).length=b.length:=by simp
  have hal:(ia acc).length=acc.length:=by simp
  have l6:(H.get ⟨0,24,gg,0⟩).isSome=true:=by rw[hr];rfl
  have hih:=fun g H'=>ih (k+1) ((k:Int)+1) (acc++b) g H' hs' (by omega) (by simp) (by simp;omega)
  have hQ' : ∀g H',H'.get ⟨0,24,g,0⟩=some ⟨1,ia ((acc++b)++ji s),true,false⟩→Q (.cM ⟨0,24,g,0⟩ 0 ((acc++b)++ji s).length none) H':=fun g H' h=>by
   have:=hQ g H' (by rw[←List.append_assoc];exact h)
   rw[←List.append_assoc]at this
   exact this
  clear hQ ih hp hs
  refine je _ _ _ _ _ _ fun g=>?_
  have hel:=hpx.ld
  by_cases hb:b=[]
  ·subst hb
   have hfin:=hih gg H hF
   simp only[List.append_nil]at hfin hQ'
   have hfin':=hfin hr hQ'
   clear hfin hih hQ'
   simp[ah,ai,ae,af,ad, *,eB,hx.r,hx.idx,hpx.r,hpx.ld]
  ·have hbn:ia b≠[]:=by simpa using hb
   have f4:mN 1 1 acc.length true none (some ⟨1,ia acc,true,false⟩) (some (ia b)):=by
    rw[bt,hbl,hal];exact⟨rfl,rfl,.inr ⟨by simp;omega,rfl⟩⟩
   have hfin:=hih (H.gen 0 24)
   have e8:ia (acc++b)=ia acc++ia b:=List.map_append ..
   rw[e8]at hfin
   rw[show(acc++b).length=(ia acc).length+(ia b).length by rw[hbl,hal,List.length_append]]at hfin
   clear hih hbl hal ha e8
   generalize ia acc=A at *
   generalize ia b=B at *
   simp[ah,ai,ae,af,ad, *,eB,hx.r,hx.idx,hpx.r,hpx.ld]
   exact hfin _ (by simp(maxDischargeDepth:=12) [ab.get_put,aq,an,Fr.nil,aD,ah,ai,ae,af,ar,ao,ad, *]) (by simp) hQ'
theorem Ml{ps:List (List UInt8 × AV)}{x0:AV}(hx:Sl 1 (ps.map (·.2)) x0)(hp : ∀p∈ps,Sl 1 (ia p.1) p.2)(hl:ps.length<100000)(ht:(ji ps).length<1000000)(h0:0<(ji ps).length){H:ab}{Q:AV→ab→Prop}
 (hend : ∀H',Fr H'→H'.get ⟨0,24,H.gen 0 24,0⟩=some ⟨1,[],true,false⟩→bT env Tryz.f120 0 dw [(27,aI 0),(6,.cM ⟨0,24,H.gen 0 24,0⟩ 0 0 none),(25,x0),(26,aI ps.length)] H' Q) :
 ∀(s:List (List UInt8 × AV)) (k:Nat) (i n:Int),ps.drop k=s→k≤ps.length→i=k→0≤n→n+(ji s).length=(ji ps).length→Fr H →
 bT env Tryz.f120 0 dF [(11,aI i),(3,aI n),(9,x0),(0,x0),(10,aI ps.length)] H Q:=by
 intro s
 induction s with
 | nil =>
  rintro k i n hs hk rfl hn0 hn hF
  obtain rfl:=drop_nil hs hk
  refine jA _ _ _ _ _ _ _ fun g=>?_
  have hn':n=(ji ps).length:=by simpa [ji] using hn
  have hG:=SQ n (by omega) (by omega)
  have hxl:(ps.map (·.2)).length=ps.length:=by simp
  clear hn' hn hp
  simp[ah,ai,ae,af,ad, *,fO,hx.r]
  exact hend _ (by simp(maxDischargeDepth:=12) [ab.get_put,aq,an,Fr.nil,aD,ah,ai,ae,af,ar,ao,ad, *]) (by simp)
 | cons p s ih =>
  rintro k i n hs hk rfl hn0 hn hF
  obtain⟨hlt,hg,hs',hg'⟩:=drop_cons hs
  have hpx:=hp p (by rw[←hg];exact List.getElem_mem _)
  obtain⟨b,x⟩:=p
  simp only at hpx
  have hfl:ji ((b,x) :: s)=b++ji s:=rfl
  rw[hfl,List.length_append]at hn
  have e3:=IntWalk.i64_in ((k:Int)+1) (by omega)
  have e4:=IntWalk.i64_in (n+(b.length:Int)) (by omega)
  have hrd:eL (ps.map (·.2)) k 0 1 false=some x:=by simp[hg',hpx.r]
  have hxl:(ps.map (·.2)).length=ps.length:=by simp
  have hbl:(ia b).length=b.length:=by simp
  have hneg : ¬n+(b.length:Int)<0:=by omega
  have hfin:=ih (k+1) ((k:Int)+1) (n+(b.length:Int)) hs' (by omega) (by simp) (by omega) (by omega) hF
  refine jA _ _ _ _ _ _ _ fun g=>?_
  clear ih hend hp hs hn
  simp[ah,ai,ae,af,ad, *,fO,hx.r,hx.idx,hpx.r]
  all_goals exact hfin
theorem GQ{ps:List (List UInt8 × AV)}{x0:AV}(hx:Sl 1 (ps.map (·.2)) x0)(hp : ∀p∈ps,Sl 1 (ia p.1) p.2)(hl:ps.length<100000)(ht:(ji ps).length<1000000)(h0:0<(ji ps).length):bj env 120 [x0]=some (.fsl 1 (ia (ji ps)) none):=by
 refine aK (fn:=Tryz.f120) (c:=eS) rfl (by kernel_rfl) (by kernel_rfl) (by kernel_rfl) (by kernel_rfl) ?_;refine pa _ _ _ fun g=>?_
 have hxl:(ps.map (·.2)).length=ps.length:=by simp
 have hxn:=hx.len
 have hfl:(ia (ji ps)).length=(ji ps).length:=by simp
 have h2:=fun H' Q hF hr=>Mj hx hp hl ht (Q:=Q) ps 0 0 [] 0 H' rfl (by omega) rfl (by simp) hF hr
 have h1:=fun Q hend=>Ml hx hp hl ht h0 (H:=[]) (Q:=Q) hend ps 0 0 0 rfl (by omega) rfl (by omega) (by omega) Fr.nil
 clear hp
 simp[ah,ai,ae,af,ad, *,kg,hx.r]
 refine h1 _ fun H' hF hr=>h2 H' _ hF hr fun g' H'' hr'=>?_
 rw[List.nil_append]at hr' ⊢
 rw[←hfl]
 generalize ia (ji ps)=B at *
 simp[hr']
end Go.Proofs.YtdbiffjdomokfaaGreat
