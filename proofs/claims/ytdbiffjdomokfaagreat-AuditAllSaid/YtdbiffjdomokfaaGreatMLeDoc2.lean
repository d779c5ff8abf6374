/-
  What a history tells of an operation: what its parts answer. No statement of a seat is proved here.
-/
import Derived.Test.YtdbiffjdomokfaaGreatChFns2
import Derived.Test.YtdbiffjdomokfaaGreatRecFns
import Derived.Test.YtdbiffjdomokfaaGreatAbsKeys
import Derived.Test.YtdbiffjdomokfaaGreatAuVc8
set_option linter.unusedVariables false
set_option linter.unusedSimpArgs false
set_option linter.unusedSectionVars false
set_option linter.unnecessarySimpa false
set_option maxRecDepth 100000
namespace Go.Proofs.YtdbiffjdomokfaaGreat
open Go.Ab
attribute [local simp] bD bq bo bF bE cZ ld bQ bx bA dx dw cg bT aY ct List.take_of_length_le
def S9(h:AO):Value := .agg #[.int .u8 h.lv.toNat,.int .u32 h.cats.toNat,.int .u8 h.num.toNat]
def S6(i:fl):Value := .agg #[.int .u8 i.h.lv.toNat,.int .u32 i.h.cats.toNat,.int .u8 i.h.num.toNat,.int .i64 i.n]
def SM(v:mL):Value := .agg #[.int .u8 v.lv.toNat,.int .u32 v.cats.toNat]
def uP(h:AO):AV := .agg [a8 h.lv,aF h.cats,a8 h.num]
def ug(i:fl):AV := .agg [a8 i.h.lv,aF i.h.cats,a8 i.h.num,aI i.n]
def tf(v:mL):AV := .agg [a8 v.lv,aF v.cats]
theorem Ca(h:AO):fK (uP h)=some (S9 h):=rfl
theorem G0(i:fl):fK (ug i)=some (S6 i):=rfl
theorem B4(v:mL):fK (tf v)=some (SM v):=rfl
theorem Qu:(fun(e:Bool)(a b c:Int)(n:Int)=>bw env.P (Instr.checkKey e 10000 45 (.agg #[.int .u8 a,.int .u32 b,.int .u8 c,.int .i64 n])))=fun _ _ _ _ _=>some ():=by kernel_rfl
theorem Qv:(fun(e:Bool)(a b c:Int)=>bw env.P (Instr.checkKey e 10000 40 (.agg #[.int .u8 a,.int .u32 b,.int .u8 c])))=fun _ _ _ _=>some ():=by kernel_rfl
theorem Qt:(fun(e:Bool)(a b:Int)=>bw env.P (Instr.checkKey e 10000 35 (.agg #[.int .u8 a,.int .u32 b])))=fun _ _ _=>some ():=by kernel_rfl
theorem ET(d:TypeDesc)(u v:Array Value):Instr.sameNow d (.agg u) (.agg v)=none:=by
 unfold Instr.sameNow
 cases d<;>rfl
theorem NT{t:TypeId}{xs ys:List AV}{us vs:List Value}{b:Bool}(hok:AI env.P 8 t=true)(h:mf env.P 8 t xs ys=some b)(hu:ny xs=some us)(hv:ny ys=some vs)(hl:xs.length=env.P.cellsOf t)(hl':ys.length=env.P.cellsOf t)(ht:dA env.P t=some true) :
 bw env.P (Op.equal t (.agg us.toArray) (.agg vs.toArray))=some b:=by
 obtain⟨u,v,h1,h2,h3⟩:=NU 8 9992 t xs ys us vs b hok h hu hv hl hl'
 unfold Ab.qJ at h1 h2
 rw[ht]at h1 h2
 dsimp only at h1 h2
 cases h1
 cases h2
 exact h3
theorem JS:Ox env.P 45 S6 where
 chk:=fun e a=>congrFun (congrFun (congrFun (congrFun (congrFun Qu e) _) _) _) _
 eq:=fun a b=>by
  have h:=NT (t:=45) (xs:=[a8 a.h.lv,aF a.h.cats,a8 a.h.num,aI a.n]) (ys:=[a8 b.h.lv,aF b.h.cats,a8 b.h.num,aI b.n]) (b:=decide (a=b)) (by kernel_rfl)
   (by obtain⟨⟨a1,a2,a3⟩,a4⟩:=a;obtain⟨⟨b1,b2,b3⟩,b4⟩:=b;simp[mf,gb,and_assoc,Bool.and_assoc]) rfl rfl (by kernel_rfl) (by kernel_rfl) (by kernel_rfl)
  exact h
 now:=fun d _ a b=>ET d _ _
 und:=by kernel_rfl
 bits:=fun a=>by simp[S6,Instr.sameBits]
theorem E6:Ox env.P 40 S9 where
 chk:=fun e a=>congrFun (congrFun (congrFun (congrFun Qv e) _) _) _
 eq:=fun a b=>by
  have h:=NT (t:=40) (xs:=[a8 a.lv,aF a.cats,a8 a.num]) (ys:=[a8 b.lv,aF b.cats,a8 b.num]) (b:=decide (a=b)) (by kernel_rfl)
   (by obtain⟨a1,a2,a3⟩:=a;obtain⟨b1,b2,b3⟩:=b;simp[mf,gb,and_assoc,Bool.and_assoc]) rfl rfl (by kernel_rfl) (by kernel_rfl) (by kernel_rfl)
  exact h
 now:=fun d _ a b=>ET d _ _
 und:=by kernel_rfl
 bits:=fun a=>by simp[S9,Instr.sameBits]
theorem E5:Ox env.P 35 SM where
 chk:=fun e a=>congrFun (congrFun (congrFun Qt e) _) _
 eq:=fun a b=>by
  have h:=NT (t:=35) (xs:=[a8 a.lv,aF a.cats]) (ys:=[a8 b.lv,aF b.cats]) (b:=decide (a=b)) (by kernel_rfl)
   (by obtain⟨a1,a2⟩:=a;obtain⟨b1,b2⟩:=b;simp[mf,gb,and_assoc,Bool.and_assoc]) rfl rfl (by kernel_rfl) (by kernel_rfl) (by kernel_rfl)
  exact h
 now:=fun d _ a b=>ET d _ _
 und:=by kernel_rfl
 bits:=fun a=>by simp[SM,Instr.sameBits]
end Go.Proofs.YtdbiffjdomokfaaGreat
namespace Go.Proofs.YtdbiffjdomokfaaGreat
open Go.Ab
attribute [local simp] bD bq bo bF bE cZ ld bQ bx bA dx dw cg bT aY ct List.take_of_length_le
structure cz (H H':ab):Prop where
 fr:Fr H'
 old : ∀q b,H.get q=some b→H'.get q=some b
theorem cz.refl{H:ab}(h:Fr H):cz H H:=⟨h,fun _ _ h=>h⟩
theorem cz.trans{H H' H'':ab}(h:cz H H')(h':cz H' H''):cz H H'':=⟨h'.fr,fun q b hq=>h'.old q b (h.old q b hq)⟩
theorem cz.cons{H:ab}(hF:Fr H)(d t:Nat)(b:bM):cz H ((⟨d,t,H.gen d t,0⟩,some b) :: H) :=
 ⟨by simp(maxDischargeDepth:=12) [ab.get_put,aq,an,Fr.nil,aD,ah,ai,ae,af,ar,ao,ad, *],fun q c hq=>by rw[ab.o4,if_neg (pC hF (by rw[hq];rfl) _ _ _)];exact hq⟩
theorem kU{f:FuncId}(hm:(env.mode f == 2)=true){dep:Nat}{H:ab}{r:Ref}{first args captured:List AV}{y:AV}{K:AV→ab→Prop}{m:Mk K}
 (h : ∃H',bU env dep (.fn f) (first++args++captured) H=some (y,H')∧cz H H') (hk : ∀H',cz H H'→K y H') :
 aO (bn env true (bj env) (bU env dep) H r (some (.fn (.func f) first captured)) args) K m:=by
 obtain⟨H',h1,h2⟩:=h
 refine qa (v:=y) (H:=H') ?_ (hk H' h2)
 rw[zQ hm]
 exact h1
theorem fw{f:FuncId}{fn:Func}{c:Code}{dep:Nat}{args:List AV}{H:ab}{y:AV}(hm:env.mode f=2)(hal:env.allowed f=true)(hf:env.P.funcs[f]?=some fn)(hc:fn.body=some c)(hl:Nat.ble args.length fn.ntmps=true)
 (h:bP env fn (dep+1) [.code c] (ra 0 args) H fun x H1=>x=y∧cz H H1) (hsp:env.thrSpec f args H=none:=by rfl) : ∃H',bU env dep (.fn f) args H=some (y,H')∧cz H H':=by
 obtain⟨y',H',h1,rfl,h3⟩:=mv (Q:=fun x H1=>x=y∧cz H H1) hm hal hf hc hl h hsp
 exact⟨H',h1,h3⟩
structure vt (H:ab) (rh:Ref) (ops:List (bR × AV)) (ents:List (fl × AV)):Prop where
 box : ∃xo vo rm,H.get rh=some ⟨2,[.agg [xo,.mp rm]],false,false⟩∧iu 17 (eU ops) H xo vo∧H.get rm=some (bt (cD ug ents))
theorem vt.grow{H H':ab}{rh:Ref}{ops:List (bR × AV)}{ents:List (fl × AV)}(h:vt H rh ops ents)(g:cz H H'):vt H' rh ops ents:=by
 obtain⟨xo,vo,rm,h1,h2,h3⟩:=h.box
 refine⟨xo,vo,rm,g.old _ _ h1,?_,g.old _ _ h3⟩
 rcases h2 with h2 | ⟨r,c,fz,e1,e2,e3⟩
 ·exact .inl h2
 ·exact .inr ⟨r,c,fz,e1,g.old _ _ e2,e3⟩
def ow(ents:List (fl × AV))(i:fl):Bool:=match eW i ents with | some (.v (.bool b))=>b | _=>false
def pH(ents:List (fl × AV)):Prop :=∀p∈ents,p.2=aB true
theorem K8{ents:List (fl × AV)}(h:pH ents)(i:fl):(eW i ents).getD (aB false)=aB (ow ents i):=by
 unfold ow
 induction ents with
 | nil=>rfl
 | cons p l ih =>
  unfold eW
  split
  ·rename_i hp;rw[h p List.mem_cons_self];rfl
  ·exact ih fun q hq=>h q (List.mem_cons_of_mem _ hq)
def vX(ents:List (fl × AV))(o:bR)(i:fl):Bool:=ow ents i&&zB (ZT i) (Lu o)
theorem JM{g:de}{rm:Ref}{ents:List (fl × AV)}(hb:pH ents)(hr:g rm=some (bt (cD ug ents)))(k9:UInt8)(k8:UInt32)(lP:UInt8)(jx:Int):cY env.P g 196 (some (.mp rm)) (some (.agg [a8 k9,aF k8,a8 lP,aI jx])) false=some (aB (ow ents (⟨⟨k9,k8,lP⟩,jx⟩:fl)),[]):=by
 have h:=uF JS G0 (t:=196) (et:=4) (by kernel_rfl) (z:=aB false) (by kernel_rfl) hr (⟨⟨k9,k8,lP⟩,jx⟩:fl) false
 rw[K8 hb]at h
 exact h
section
variable(dep:Nat){H:ab}(hF:Fr H){rh:Ref}{ops:List (bR × AV)}{ents:List (fl × AV)}(hh:vt H rh ops ents)(hb:pH ents)
include hF hh hb
theorem Jr(bh:UInt8)(aQ:UInt8)(aP:UInt32)(aT:UInt8)(aX:Int)(bc:UInt8)(ba:UInt32)(bf:UInt8)(bg:Int)(au:Int)(az:UInt8)(ay:UInt32)(ax:UInt8)(aw:Int)(aC:UInt8)(aA:UInt32)(k9:UInt8)(k8:UInt32)(lP:UInt8)(jx:Int){x:AV}{al:List Int}(hx:Sl 1 (rows al) x) : ∃H',bU env dep (.fn 154) [.ptr rh 0 0,.agg [a8 bh,a8 aQ,aF aP,a8 aT,aI aX,a8 bc,aF ba,a8 bf,aI bg,aI au,a8 az,aF ay,a8 ax,aI aw,a8 aC,aF aA,x],.agg [a8 k9,aF k8,a8 lP,aI jx]] H=some (aB (vX ents (⟨bh,⟨aQ,aP,aT⟩,aX,⟨⟨⟨bc,ba,bf⟩,bg⟩,au⟩,⟨⟨az,ay,ax⟩,aw⟩,⟨aC,aA⟩,al⟩:bR) (⟨⟨k9,k8,lP⟩,jx⟩:fl)),H')∧cz H H':=by
 refine fw (fn:=Tryz.f154) (c:=iS) (by kernel_rfl) (by kernel_rfl) (by kernel_rfl) (by kernel_rfl) (by kernel_rfl) ?_
 refine m8 _ _ _ _ _ _ fun g=>?_
 obtain⟨xo,vo,rm,h1,h2,h3⟩:=hh.box
 have l1:(H.get rh).isSome=true:=by rw[h1];rfl
 have l3:(H.get rm).isSome=true:=by rw[h3];rfl
 have hlk:=fun(H':ab)(h:H'.get rm=some (bt (cD ug ents)))=>JM (g:=H'.get) hb h k9 k8 lP jx
 have hso:=h2.r
 have hgr : ∀H',Fr H'→(∀q b,H.get q=some b→H'.get q=some b)→cz H H':=fun H' a b=>⟨a,b⟩
 have hfin : ∀b1 b2:bM,cz H ((⟨dep+1,5,H.gen (dep+1) 5,0⟩,some b2) :: (⟨dep+1,4,H.gen (dep+1) 4,0⟩,some b1) :: H):=fun b1 b2=>⟨by simp(maxDischargeDepth:=12) [ab.get_put,aq,an,Fr.nil,aD,ah,ai,ae,af,ar,ao,ad, *],fun q c hq=>by
  have lq:(H.get q).isSome=true:=by rw[hq];rfl
  simp[ah hF lq,hq]⟩
 unfold vX
 cases ht:ow ents (⟨⟨k9,k8,lP⟩,jx⟩:fl) with
 | false =>
  simp[ah,ai,ae,af,ad, *,fe,hx.r]
 | true =>
  simp[ah,ai,ae,af,ad, *,fe,hx.r]
  all_goals rfl
theorem NG(k9:UInt8)(k8:UInt32)(lP:UInt8)(jx:Int){q:Ref}(hq:H.get q=some ⟨1,[.ptr rh 0 0],false,false⟩) : ∃H',bU env dep (.fn 157) [.agg [a8 k9,aF k8,a8 lP,aI jx],.ptr q 0 0] H=some (aB (ow ents (⟨⟨k9,k8,lP⟩,jx⟩:fl)),H')∧cz H H':=by
 refine fw (fn:=Tryz.f157) (c:=gJ) (by kernel_rfl) (by kernel_rfl) (by kernel_rfl) (by kernel_rfl) (by kernel_rfl) ?_
 refine lD _ _ _ _ _ fun g=>?_
 obtain⟨xo,vo,rm,h1,h2,h3⟩:=hh.box
 have l1:(H.get rh).isSome=true:=by rw[h1];rfl
 have l2:(H.get q).isSome=true:=by rw[hq];rfl
 have l3:(H.get rm).isSome=true:=by rw[h3];rfl
 have hlk:=fun(H':ab)(h:H'.get rm=some (bt (cD ug ents)))=>JM (g:=H'.get) hb h k9 k8 lP jx
 have hso:=h2.r
 have hfin : ∀b1:bM,cz H ((⟨dep+1,2,H.gen (dep+1) 2,0⟩,some b1) :: H):=fun b1=>cz.cons hF _ _ _
 simp[ah,ai,ae,af,ad, *,gN]
theorem Ol(bh:UInt8)(aQ:UInt8)(aP:UInt32)(aT:UInt8)(aX:Int)(bc:UInt8)(ba:UInt32)(bf:UInt8)(bg:Int)(au:Int)(az:UInt8)(ay:UInt32)(ax:UInt8)(aw:Int)(aC:UInt8)(aA:UInt32)(k9:UInt8)(k8:UInt32)(lP:UInt8)(jx:Int){x:AV}{al:List Int}(hx:Sl 1 (rows al) x){q p:Ref}(hq:H.get q=some ⟨1,[.ptr rh 0 0],false,false⟩)(hp:H.get p=some ⟨17,[.agg [a8 bh,a8 aQ,aF aP,a8 aT,aI aX,a8 bc,aF ba,a8 bf,aI bg,aI au,a8 az,aF ay,a8 ax,aI aw,a8 aC,aF aA,x]],false,false⟩) :
 ∃H',bU env dep (.fn 167) [.agg [a8 k9,aF k8,a8 lP,aI jx],.ptr q 0 0,.ptr p 0 0] H=some (aB (!vX ents (⟨bh,⟨aQ,aP,aT⟩,aX,⟨⟨⟨bc,ba,bf⟩,bg⟩,au⟩,⟨⟨az,ay,ax⟩,aw⟩,⟨aC,aA⟩,al⟩:bR) (⟨⟨k9,k8,lP⟩,jx⟩:fl)),H')∧cz H H':=by
 refine fw (fn:=Tryz.f167) (c:=iI) (by kernel_rfl) (by kernel_rfl) (by kernel_rfl) (by kernel_rfl) (by kernel_rfl) ?_
 refine mN _ _ _ _ _ _ fun g=>?_
 have l2:(H.get q).isSome=true:=by rw[hq];rfl
 have l3:(H.get p).isSome=true:=by rw[hp];rfl
 have hg : ∀b1:bM,cz H ((⟨dep+1,3,H.gen (dep+1) 3,0⟩,some b1) :: H):=fun b1=>cz.cons hF _ _ _
 have hs:=fun b1=>Jr (dep+1) (hg b1).fr (hh.grow (hg b1)) hb bh aQ aP aT aX bc ba bf bg au az ay ax aw aC aA k9 k8 lP jx hx
 simp[ah,ai,ae,af,ad, *,iK,hx.r]
 refine kU (by kernel_rfl) (hs _) fun H1 hG=>?_
 have hfin:=(hg _).trans hG
 simp[hfin]
end
def kZ(l:List fl):List AV:=l.map ug
@[simp] theorem UY(l:List fl):(kZ l).length=l.length:=by simp[kZ]
def IS(p:fl→Bool):List fl→Nat→Int
 | [],_ => -1
 | i :: l,k=>if p i then k else IS p l (k+1)
theorem GZ(p:fl→Bool) : ∀(l:List fl)(k:Nat),decide (0≤IS p l k)=l.any p
 | [],k=>rfl
 | i :: l,k=>by
  unfold IS
  rw[List.any_cons]
  cases h:p i with
  | true=>simp
  | false=>simpa using GZ p l (k+1)
section
variable(dep:Nat){F:FuncId}(hm:(env.mode F == 2)=true){caps:List AV}{l:List fl}{x0:AV}(hx:Sl 4 (kZ l) x0)(hl:l.length<100000){H0:ab}{p:fl→Bool}
include hm hx hl
theorem Lm(hp : ∀i H,cz H0 H →∃H',bU env (dep+1) (.fn F) ([]++[ug i]++caps) H=some (aB (p i),H')∧cz H H'){Q:AV→ab→Prop} : ∀(s:List fl)(k:Nat)(i:Int)(H:ab),l.drop k=s→k≤l.length→i=k→cz H0 H→(∀y H',y=aI (IS p s k)→cz H0 H'→Q y H') →
 bP env Tryz.f166 (dep+1) bH [(8,aI i),(0,x0),(1,.fn (.func F) [] caps),(7,aI l.length)] H Q:=by
 intro s
 induction s with
 | nil =>
  rintro k i H hs hk rfl hG hQ
  obtain rfl:=drop_nil hs hk
  have hfin:=hQ _ H rfl hG
  refine dz _ _ _ _ _ _ _ fun g=>?_
  clear hp hQ
  simp[ah,ai,ae,af,ad, *,ca]
  all_goals exact hfin
 | cons a s ih =>
  rintro k i H hs hk rfl hG hQ
  obtain⟨hlt,hg,hs',hg'⟩:=drop_cons hs
  have e3:=IntWalk.i64_in ((k:Int)+1) (by omega)
  have hrd:dX (kZ l) k 0 4 true=some (ug a):=by simp[kZ,hg',ug]
  have hc:=hp a H hG
  have hih:=fun H' h1=>ih (k+1) ((k:Int)+1) H' hs' (by omega) (by simp) h1
  have hlt':(k:Int)<l.length:=by omega
  clear ih hp hs hs' hg hg'
  refine dz _ _ _ _ _ _ _ fun g=>?_
  simp[ah,ai,ae,af,ad, *,ca,hx.r,hx.idx]
  refine kU hm hc fun H1 hG1=>?_
  have hG2:=hG.trans hG1
  unfold IS at hQ
  cases hpa:p a with
  | true =>
   rw[hpa]at hQ
   simp
   exact hQ _ _ (by simp) hG2
  | false =>
   rw[hpa]at hQ
   simp[e3]
   exact hih H1 hG2 (fun y H' ey h=>hQ y H' (by simpa using ey) h)
theorem Ai{H:ab}(hF:Fr H)(hp : ∀i H',cz H H' →∃H'',bU env (dep+2) (.fn F) ([]++[ug i]++caps) H'=some (aB (p i),H'')∧cz H' H'') :
 ∃H',bU env dep (.fn 156) [x0,.fn (.func F) [] caps] H=some (aB (l.any p),H')∧cz H H':=by
 have hi : ∃H',bU env (dep+1) (.fn 166) ([]++[x0,.fn (.func F) [] caps]++[]) H=some (aI (IS p l 0),H')∧cz H H':=by
  refine fw (fn:=Tryz.f166) (c:=ck) (by kernel_rfl) (by kernel_rfl) (by kernel_rfl) (by kernel_rfl) (by kernel_rfl) ?_
  refine fV _ _ _ _ _ fun g=>?_
  have hfin:=Lm (dep+1) hm hx hl (p:=p) hp (Q:=fun x H1=>x=aI (IS p l 0)∧cz H H1) l 0 0 H rfl (by omega) rfl (cz.refl hF) (fun y H' e h=>⟨e,h⟩)
  clear hp
  simp[ah,ai,ae,af,ad, *,dP,hx.r]
  all_goals exact hfin
 refine fw (fn:=Tryz.f156) (c:=du) (by kernel_rfl) (by kernel_rfl) (by kernel_rfl) (by kernel_rfl) (by kernel_rfl) ?_
 refine fy _ _ _ _ _ fun g=>?_
 unfold dv
 refine kU (by kernel_rfl) hi fun H1 hG=>?_
 have:=GZ p l 0
 simp[hG,←this]
end
end Go.Proofs.YtdbiffjdomokfaaGreat
