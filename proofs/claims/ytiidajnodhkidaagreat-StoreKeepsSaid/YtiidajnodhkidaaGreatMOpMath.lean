/-
  Runes as bytes: what these functions answer. No statement of a seat is proved here.
-/
import Derived.Test.YtiidajnodhkidaaGreatRunesFns
import Derived.Test.YtiidajnodhkidaaGreatMIdBytes
import Derived.Test.YtiidajnodhkidaaGreatStVc3
set_option linter.unusedVariables false
set_option linter.unusedSimpArgs false
set_option linter.unusedSectionVars false
set_option linter.unnecessarySimpa false
set_option maxRecDepth 100000
namespace Go.Proofs.YtiidajnodhkidaaGreat
open Go.Ab
attribute [local simp] ct bK bO bN keep thr cC bD bP eE eD cN cB aV dk List.take_of_length_le
def dW(l:List Int):List UInt8:=l.flatMap fun n=>be 4 n
theorem mV(l:List Int):(dW l).length=4 * l.length:=by
 induction l with
 | nil=>rfl
 | cons n l ih=>show(be 4 n++dW l).length=_;rw[List.length_append,ih,Ag,List.length_cons];omega
theorem I6{l:List Int}{x13:AV}(hx:Sl 1 (rows l) x13)(hl:l.length<100000)(hR : ∀n∈l, -2147483648≤n∧n≤2147483647){Q:AV→Heap→Prop} :
 ∀(s:List Int)(k:Nat)(i:Int)(acc:List Int)(x5:AV)(H:Heap),l.drop k=s→k≤l.length→i=k→acc.length=k→Fr H→vp [32] 1 (by8 (dW acc)) H x5→(acc=[]→x5=aNil) →
 (∀y H',vp [32] 1 (by8 (dW (acc++s))) H' y→(acc++s=[]→y=aNil)→Q (.tup [y,aI 0]) H') →
 GoL env Tryz.f124 0 lz [(15,aI i),(5,x5),(13,x13),(14,aI l.length)] H Q:=by
 intro s
 induction s with
 | nil =>
  rintro k i acc x5 H hs hk rfl ha hF hO hN hQ
  obtain rfl:=drop_nil hs hk
  refine rV _ _ _ _ _ _ fun g=>?_
  have hQ':=hQ x5 H (by simpa using hO) (by simpa using hN)
  clear hQ hO hN
  simp[af,ah,ad,ae,aa, *,lD,hx.len]
  all_goals exact hQ'
 | cons n s ih =>
  rintro k i acc x5 H hs hk rfl ha hF hO hN hQ
  obtain⟨hlt,hg,hs',hg'⟩:=drop_cons hs
  have hn:=hR n (by rw[←hg];exact List.getElem_mem _)
  have e3:=IntWalk.i64_in ((k:Int)+1) (by omega)
  refine rV _ _ _ _ _ _ fun g=>?_
  have hrd:ee (rows l) k 0 1 false=some (.v (.int .i32 n)):=by simp[rows,hg',aR]
  have q24:n.fdiv (2 ^ min 24 IntKind.i32.bits)=n / 16777216:=by rw[show(2:Int) ^ min 24 IntKind.i32.bits=16777216 from rfl];exact cO n 16777216
  have q16:n.fdiv (2 ^ min 16 IntKind.i32.bits)=n / 65536:=by rw[show(2:Int) ^ min 16 IntKind.i32.bits=65536 from rfl];exact cO n 65536
  have q8:n.fdiv (2 ^ min 8 IntKind.i32.bits)=n / 256:=by rw[show(2:Int) ^ min 8 IntKind.i32.bits=256 from rfl];exact cO n 256
  have hih:=fun x5' H'=>ih (k+1) ((k:Int)+1) (acc++[n]) x5' H' hs' (by omega) (by simp) (by simp;omega)
  have hQ' : ∀y H',vp [32] 1 (by8 (dW ((acc++[n])++s))) H' y→((acc++[n])++s=[]→y=aNil)→Q (.tup [y,aI 0]) H':=fun y H' h hn=>hQ y H' (by simpa using h) (fun e=>by simp at e)
  have hbl:=mV acc
  have hb8:(by8 (dW acc)).length=4 * acc.length:=by rw[show(by8 (dW acc)).length=(dW acc).length from by simp,hbl]
  have hst : ∀(g m:Nat)(H':Heap),m=4 * acc.length+4→H'.get ⟨0,32,g,0⟩=some ⟨1,by8 (dW acc)++[a8 (u8 (n / 16777216)),a8 (u8 (n / 65536)),a8 (u8 (n / 256)),a8 (u8 n)],true,false⟩→vp [32] 1 (by8 (dW (acc++[n]))) H' (.osl ⟨0,32,g,0⟩ 0 m none):=by
   intro g m H' hm h
   subst hm
   have e:by8 (dW (acc++[n]))=by8 (dW acc)++[a8 (u8 (n / 16777216)),a8 (u8 (n / 65536)),a8 (u8 (n / 256)),a8 (u8 n)]:=by simp[dW,be_4,by8]
   rw[e]
   exact .inr ⟨32,g,by simp,by rw[List.length_append,hb8];rfl,h⟩
  clear hQ hN ih
  rcases hO with ⟨rfl,hz⟩ | ⟨t,gg,ht,rfl,hr⟩
  ·have hz':acc=[]:=by
    have:=congrArg List.length hz
    rw[hb8]at this
    simp only[List.length_nil]at this
    exact List.eq_nil_of_length_eq_zero (by omega)
   subst hz'
   have hst':=hst (H.gen 0 32) 4
   clear hst
   simp[af,ah,ad,ae,aa, *,lD,hx.r,hx.idx,cS,cO]
   exact hih _ _ (by simp(maxDischargeDepth:=12) [Heap.aj,aD,ar,Fr.nil,aP,af,ah,ad,ae,aF,aq,aa, *]) (hst' _ rfl (by simp[dW])) (fun e=>by simp at e) hQ'
  ·rw[List.mem_singleton]at ht
   subst ht
   have l6:(H.get ⟨0,32,gg,0⟩).isSome=true:=by rw[hr];rfl
   have f4:oD 1 1 (by8 (dW acc)).length true none (some ⟨1,by8 (dW acc),true,false⟩) (some [a8 (u8 (n / 16777216)),a8 (u8 (n / 65536)),a8 (u8 (n / 256)),a8 (u8 n)]):=by
    rw[bD,hb8];refine⟨rfl,hb8.symm ▸ rfl,.inr ⟨?_,rfl⟩⟩;simp;omega
   have hst':=fun H'=>hst (H.gen 0 32) ((by8 (dW acc)).length+4) H' (by rw[hb8])
   clear hst ha hb8 hbl
   generalize by8 (dW acc)=bs at *
   simp[af,ah,ad,ae,aa, *,lD,hx.r,hx.idx,cS,cO]
   exact hih _ _ (by simp(maxDischargeDepth:=12) [Heap.aj,aD,ar,Fr.nil,aP,af,ah,ad,ae,aF,aq,aa, *]) (hst' _ (by simp)) (fun e=>by simp at e) hQ'
theorem OY{l:List Int}{x:AV}(hx:Sl 1 (rows l) x)(hl:l.length<100000)(hR : ∀n∈l, -2147483648≤n∧n≤2147483647):limf env 124 [x]=some (if rowE l=0 then .tup [outI 1 (by8 (dW l)),aI 0] else .tup [aNil,aI (rowE l)]):=by
 refine aH (fn:=Tryz.f124) (c:=qZ) rfl (by kernel_rfl) (by kernel_rfl) (by kernel_rfl) (by kernel_rfl) ?_;refine Cl _ _ _ fun g=>?_
 have hc:=xn hx (by omega)
 have hn:=hx.len
 by_cases h:rowE l=0
 ·rw[if_pos h]
  rw[h]at hc
  have hloop:=fun H Q=>I6 hx hl hR (H:=H) (Q:=Q) l 0 0 [] aNil rfl (by omega) rfl rfl
  have hfin : ∀y H',vp [32] 1 (by8 (dW ([]++l))) H' y→([]++l=[]→y=aNil)→view H'.get 8 (.tup [y,aI 0])=some (.tup [outI 1 (by8 (dW l)),aI 0]):=by
   intro y H' ho hnil
   rw[List.nil_append]at ho hnil
   rcases ho with ⟨rfl,hz⟩ | ⟨t,gg,ht,rfl,hr⟩
   ·rw[hz];simp[outI]
   ·have hne:by8 (dW l)≠[]:=by
     intro e
     have h1:=congrArg List.length e
     have h2:=mV l
     have h3:(by8 (dW l)).length=(dW l).length:=by simp
     simp only[List.length_nil]at h1
     have:l=[]:=List.eq_nil_of_length_eq_zero (by omega)
     cases hnil this
    rw[Bb 1 hne]
    generalize by8 (dW l)=bs at *
    simp[hr]
  have run:=fun H hF=>hloop H (fun x H=>view H.get 8 x=some (.tup [outI 1 (by8 (dW l)),aI 0])) hF (.inl ⟨rfl,rfl⟩) (fun _=>rfl) hfin
  clear hloop hfin h
  generalize outI 1 (by8 (dW l))=yo at *
  simp[af,ah,ad,ae,aa, *,rj,hx.r]
  all_goals exact run _ (by simp(maxDischargeDepth:=12) [aD,ar,Fr.nil,aP,af,ah,ad,ae,aF,aq,aa, *])
 ·rw[if_neg h]
  simp[af,ah,ad,ae,aa, *,rj,hx.r]
end Go.Proofs.YtiidajnodhkidaaGreat
namespace Go.Proofs.YtiidajnodhkidaaGreat
open Go.Ab
attribute [local simp] ct bK bO bN keep thr cC bD bP eE eD cN cB aV dk List.take_of_length_le
theorem yw{P:Program}{t t':TypeId}(hT:elOk P t=true)(hA:isInt P t'=true)(hz:(gq P t).cells.all AV.one=true)(wk:Bool)(H:Heap)(r:Ref)(n:Int)(h0:0<n)(h1:n≤cN)(hb:n.toNat * elBy P t≤cN) :
 cE P wk H r (some t) (some t') aNil (aI n)=some (.osl r 0 n.toNat none,({ r with k:=0},some ⟨elZ P t,List.replicate n.toNat (gq P t),true,false⟩) :: H):=by
 unfold elOk at hT
 obtain⟨e,zz,e1,e2,e3,e4,e5,e6,e7,e8⟩:=gl hT
 have ez:gq P t=zz:=by unfold gq;rw[e1,Option.bind_some,e4];rfl
 rw[ez]at hz ⊢
 have hun:(P.underlying t').isNone=false:=by
  unfold isInt at hA
  cases h:P.underlying t' with
  | none=>rw[h]at hA;cases hA
  | some d=>rfl
 have hc : ¬((P.underlying t').isNone=true∨isInt P t'≠isNum (aI n)):=by rw[hun,hA];simp[isNum]
 have hd : ¬(elZ P t≠elZ P t∨elZ P t=0∨elBy P t=0∨zz.cells.length≠elZ P t):=by simp[e5,e7,e8]
 have hnew:mI P H.get e (aI n)=some (elZ P t,List.replicate n.toNat zz):=by
  show(match fF P e,bm P e with | some w,some z=>if 0≤n∧n≤cN∧w.cells.length=z∧w.cells.all AV.one then some (z,List.replicate n.toNat w) else none | _,_=>none)=_
  rw[e4,e2]
  exact if_pos ⟨by omega,h1,by simp[e5,e7,e8],hz⟩
 have hn:List.replicate n.toNat zz≠[]:=by
  intro h
  have:=congrArg List.length h
  simp only[List.length_replicate,List.length_nil]at this
  omega
 simp only[cE,eV,Option.bind_some,e1,Option.map_some,Option.getD_some,if_neg hc,e2,e3,e4,hnew,if_neg hd,if_neg hn,List.length_replicate,if_pos hb]
 rfl
@[simp] theorem T8(g:Get)(r:Ref):aw env.P false g r .cap #[76] [aNil]=some (aI 0,[]):=by kernel_rfl
theorem SD(n:Int)(h0:0<n)(h1:n<1000000):limf env 146 [aNil,aI n]=some (.fsl 1 [] none):=by
 refine aH (fn:=Tryz.f146) (c:=jj) rfl (by kernel_rfl) (by kernel_rfl) (by kernel_rfl) (by kernel_rfl) ?_;refine mX _ _ _ _ fun g=>?_
 have h2 : ¬n<0:=by omega
 have e1:=IntWalk.i64_in n (by omega)
 have w0:IntKind.i64.wrap 0=0:=rfl
 have h3:n≤140737488355328:=by omega
 have h4:n.toNat≤140737488355328:=by omega
 have h5:0<n.toNat:=by omega
 have hm:=yw (P:=env.P) (t:=76) (t':=3) (by simp) (by simp) (by simp) true [] ⟨0,22,0,0⟩ n h0 h3 (by simp;omega)
 simp[af,ah,ad,ae,aa, *,jk, -hm]
 refine Ds hm ?_
 simp
 all_goals omega
def jY(s:List (List UInt8 × AV)):List UInt8:=s.flatMap (·.1)
theorem KD{ps:List (List UInt8 × AV)}{x0:AV}(hx:Sl 1 (ps.map (·.2)) x0)(hp : ∀p∈ps,Sl 1 (by8 p.1) p.2)(hl:ps.length<100000)(ht:(jY ps).length<1000000){Q:AV→Heap→Prop} :
 ∀(s:List (List UInt8 × AV)) (k:Nat) (i:Int) (acc:List UInt8) (gg:Nat) (H:Heap),ps.drop k=s→k≤ps.length→i=k→acc.length+(jY s).length=(jY ps).length→Fr H→H.get ⟨0,24,gg,0⟩=some ⟨1,by8 acc,true,false⟩ →
 (∀g H',H'.get ⟨0,24,g,0⟩=some ⟨1,by8 (acc++jY s),true,false⟩→Q (.osl ⟨0,24,g,0⟩ 0 (acc++jY s).length none) H') →
 GoL env Tryz.f108 0 dg [(27,aI i),(6,.osl ⟨0,24,gg,0⟩ 0 acc.length none),(25,x0),(26,aI ps.length)] H Q:=by
 intro s
 induction s with
 | nil =>
  rintro k i acc gg H hs hk rfl ha hF hr hQ
  obtain rfl:=drop_nil hs hk
  refine gT _ _ _ _ _ _ fun g=>?_
  have hQ':=hQ gg H (by simpa [jY] using hr)
  simp only[jY,List.flatMap_nil,List.append_nil]at hQ'
  clear hQ hr
  simp[af,ah,ad,ae,aa, *,dM]
  all_goals exact hQ'
 | cons p s ih =>
  rintro k i acc gg H hs hk rfl ha hF hr hQ
  obtain⟨hlt,hg,hs',hg'⟩:=drop_cons hs
  have hpx:=hp p (by rw[←hg];exact List.getElem_mem _)
  obtain⟨b,x⟩:=p
  simp only at hpx
  have e3:=IntWalk.i64_in ((k:Int)+1) (by omega)
  have hfl:jY ((b,x) :: s)=b++jY s:=rfl
  rw[hfl]at ha hQ
  rw[List.length_append]at ha
  have hrd:ee (ps.map (·.2)) k 0 1 false=some x:=by simp[hg',hpx.r]
  have hxl:(ps.map (·.2)).length=ps.length:=by simp
  have hbl:(by8 b).length=b.length:=by simp
  have hal:(by8 acc).length=acc.length:=by simp
  have l6:(H.get ⟨0,24,gg,0⟩).isSome=true:=by rw[hr];rfl
  have hih:=fun g H'=>ih (k+1) ((k:Int)+1) (acc++b) g H' hs' (by omega) (by simp) (by simp;omega)
  have hQ' : ∀g H',H'.get ⟨0,24,g,0⟩=some ⟨1,by8 ((acc++b)++jY s),true,false⟩→Q (.osl ⟨0,24,g,0⟩ 0 ((acc++b)++jY s).length none) H':=fun g H' h=>by
   have:=hQ g H' (by rw[←List.append_assoc];exact h)
   rw[←List.append_assoc]at this
   exact this
  clear hQ ih hp hs
  refine gT _ _ _ _ _ _ fun g=>?_
  have hel:=hpx.mu
  by_cases hb:b=[]
  ·subst hb
   have hfin:=hih gg H hF
   simp only[List.append_nil]at hfin hQ'
   have hfin':=hfin hr hQ'
   clear hfin hih hQ'
   simp[af,ah,ad,ae,aa, *,dM,hx.r,hx.idx,hpx.r,hpx.mu]
  ·have hbn:by8 b≠[]:=by simpa using hb
   have f4:oD 1 1 acc.length true none (some ⟨1,by8 acc,true,false⟩) (some (by8 b)):=by
    rw[bD,hbl,hal];exact⟨rfl,rfl,.inr ⟨by simp;omega,rfl⟩⟩
   have hfin:=hih (H.gen 0 24)
   have e8:by8 (acc++b)=by8 acc++by8 b:=List.map_append ..
   rw[e8]at hfin
   rw[show(acc++b).length=(by8 acc).length+(by8 b).length by rw[hbl,hal,List.length_append]]at hfin
   clear hih hbl hal ha e8
   generalize by8 acc=A at *
   generalize by8 b=B at *
   simp[af,ah,ad,ae,aa, *,dM,hx.r,hx.idx,hpx.r,hpx.mu]
   exact hfin _ (by simp(maxDischargeDepth:=12) [Heap.aj,aD,ar,Fr.nil,aP,af,ah,ad,ae,aF,aq,aa, *]) (by simp) hQ'
theorem KE{ps:List (List UInt8 × AV)}{x0:AV}(hx:Sl 1 (ps.map (·.2)) x0)(hp : ∀p∈ps,Sl 1 (by8 p.1) p.2)(hl:ps.length<100000)(ht:(jY ps).length<1000000)(h0:0<(jY ps).length){H:Heap}{Q:AV→Heap→Prop}
 (hend : ∀H',Fr H'→H'.get ⟨0,24,H.gen 0 24,0⟩=some ⟨1,[],true,false⟩→GoL env Tryz.f108 0 dg [(27,aI 0),(6,.osl ⟨0,24,H.gen 0 24,0⟩ 0 0 none),(25,x0),(26,aI ps.length)] H' Q) :
 ∀(s:List (List UInt8 × AV)) (k:Nat) (i n:Int),ps.drop k=s→k≤ps.length→i=k→0≤n→n+(jY s).length=(jY ps).length→Fr H →
 GoL env Tryz.f108 0 dp [(11,aI i),(3,aI n),(9,x0),(0,x0),(10,aI ps.length)] H Q:=by
 intro s
 induction s with
 | nil =>
  rintro k i n hs hk rfl hn0 hn hF
  obtain rfl:=drop_nil hs hk
  refine gX _ _ _ _ _ _ _ fun g=>?_
  have hn':n=(jY ps).length:=by simpa [jY] using hn
  have hG:=SD n (by omega) (by omega)
  have hxl:(ps.map (·.2)).length=ps.length:=by simp
  clear hn' hn hp
  simp[af,ah,ad,ae,aa, *,fg,hx.r]
  exact hend _ (by simp(maxDischargeDepth:=12) [Heap.aj,aD,ar,Fr.nil,aP,af,ah,ad,ae,aF,aq,aa, *]) (by simp)
 | cons p s ih =>
  rintro k i n hs hk rfl hn0 hn hF
  obtain⟨hlt,hg,hs',hg'⟩:=drop_cons hs
  have hpx:=hp p (by rw[←hg];exact List.getElem_mem _)
  obtain⟨b,x⟩:=p
  simp only at hpx
  have hfl:jY ((b,x) :: s)=b++jY s:=rfl
  rw[hfl,List.length_append]at hn
  have e3:=IntWalk.i64_in ((k:Int)+1) (by omega)
  have e4:=IntWalk.i64_in (n+(b.length:Int)) (by omega)
  have hrd:ee (ps.map (·.2)) k 0 1 false=some x:=by simp[hg',hpx.r]
  have hxl:(ps.map (·.2)).length=ps.length:=by simp
  have hbl:(by8 b).length=b.length:=by simp
  have hneg : ¬n+(b.length:Int)<0:=by omega
  have hfin:=ih (k+1) ((k:Int)+1) (n+(b.length:Int)) hs' (by omega) (by simp) (by omega) (by omega) hF
  refine gX _ _ _ _ _ _ _ fun g=>?_
  clear ih hend hp hs hn
  simp[af,ah,ad,ae,aa, *,fg,hx.r,hx.idx,hpx.r]
  all_goals exact hfin
theorem AS{ps:List (List UInt8 × AV)}{x0:AV}(hx:Sl 1 (ps.map (·.2)) x0)(hp : ∀p∈ps,Sl 1 (by8 p.1) p.2)(hl:ps.length<100000)(ht:(jY ps).length<1000000)(h0:0<(jY ps).length):limf env 108 [x0]=some (.fsl 1 (by8 (jY ps)) none):=by
 refine aH (fn:=Tryz.f108) (c:=ep) rfl (by kernel_rfl) (by kernel_rfl) (by kernel_rfl) (by kernel_rfl) ?_;refine me _ _ _ fun g=>?_
 have hxl:(ps.map (·.2)).length=ps.length:=by simp
 have hxn:=hx.len
 have hfl:(by8 (jY ps)).length=(jY ps).length:=by simp
 have h2:=fun H' Q hF hr=>KD hx hp hl ht (Q:=Q) ps 0 0 [] 0 H' rfl (by omega) rfl (by simp) hF hr
 have h1:=fun Q hend=>KE hx hp hl ht h0 (H:=[]) (Q:=Q) hend ps 0 0 0 rfl (by omega) rfl (by omega) (by omega) Fr.nil
 clear hp
 simp[af,ah,ad,ae,aa, *,iT,hx.r]
 refine h1 _ fun H' hF hr=>h2 H' _ hF hr fun g' H'' hr'=>?_
 rw[List.nil_append]at hr' ⊢
 rw[←hfl]
 generalize by8 (jY ps)=B at *
 simp[hr']
end Go.Proofs.YtiidajnodhkidaaGreat
namespace Go.Ab
structure Lab where
 lv:UInt8
 cats:UInt32
deriving DecidableEq
structure Opn where
 kind:UInt8
 h:Han
 serial:Int
 s:Spn
 a:Idd
 to:Lab
 l:List Int
deriving DecidableEq
def ma(a:Idd):Bool:=decide (a.h.lv=0)&&decide (a.h.cats=0)&&decide (a.h.num=0)&&decide (a.n=0)
def Ca(t:Lab):Bool:=decide (t.lv=0)&&decide (t.cats=0)
def Lv(a b:Han):Bool:=decide (a.lv=b.lv)&&decide (a.cats=b.cats)&&decide (a.num=b.num)
theorem qu(a:Idd):ma a=true↔a=pj:=by
 obtain⟨⟨a,b,c⟩,d⟩:=a
 simp[ma,pj,and_assoc]
def Fq(o:Opn):Bool:=ma o.a&&decide (o.l=[])
def insB(o:Opn):Bool:=Ca o.to&&((ma o.a||idB o.a)&&(Lv o.s.f.h o.h&&(decide ((o.l.length:Int)=o.s.many)&&rowB o.l)))
def delB(o:Opn):Bool:=Ca o.to&&Fq o
def raiB(o:Opn):Bool:=Fq o&&decide (o.to.lv≤15)
def mayB(o:Opn):Bool:=if o.kind=1 then insB o else if o.kind=2 then delB o else if o.kind=3 then raiB o else false
def opB(o:Opn):Bool:=iN o.h&&(decide (1≤o.serial)&&(decide (o.serial<16777216)&&(qp o.s&&mayB o)))
theorem A9{P:Program}{t:TypeId}(h1:(tagg P t).isSome=true)(h2:(bm P t).isSome=true)(cs:List AV)(off:Nat):vA P t cs off=Mf cs off ((bm P t).getD 0) ((tagg P t).getD false):=by
 obtain⟨b,hb⟩:=Option.isSome_iff_exists.1 h1
 obtain⟨n,hn⟩:=Option.isSome_iff_exists.1 h2
 simp only[vA,hb,hn,Option.getD_some]
 cases b<;>rfl
theorem xz{P:Program}{t:TypeId}(h1:((tarr P t).bind fun p=>bm P p.2).isSome=true)(cs:List AV)(k:UInt8)(hk:k.toNat<((tarr P t).getD (0,0)).1) :
 rY P t (some (.agg cs)) (some (a8 k))=qVal (vA P ((tarr P t).getD (0,0)).2 cs (k.toNat * (bm P ((tarr P t).getD (0,0)).2).getD 0)):=by
 cases ht:tarr P t with
 | none=>rw[ht]at h1;simp at h1
 | some p =>
  obtain⟨n,e⟩:=p
  rw[ht]at h1 hk
  simp only[Option.bind_some,Option.getD_some]at h1 hk
  obtain⟨s,hs⟩:=Option.isSome_iff_exists.1 h1
  unfold rY a8
  simp only[Option.bind_some,rS,ht,hs,Option.getD_some]
  rw[if_pos (by omega)]
  simp
@[simp] theorem Tz(r:Ref)(n:Nat)(f:Fn)(a b:List AV)(bs:List Blk):bE r n (.fn f a b) bs=(.fn f a b,bs):=by cases n<;>rfl
end Go.Ab
