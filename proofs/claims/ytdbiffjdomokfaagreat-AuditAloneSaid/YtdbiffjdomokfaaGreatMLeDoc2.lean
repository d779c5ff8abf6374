/-
  What a history tells of an operation: what its parts answer. No statement of a seat is proved here.
-/
import Derived.Test.YtdbiffjdomokfaaGreatChFns2
import Derived.Test.YtdbiffjdomokfaaGreatRecFns
import Derived.Test.YtdbiffjdomokfaaGreatAbsKeys
import Derived.Test.YtdbiffjdomokfaaGreatAuVc8
set_option linter.unusedVariables false
set_option linter.unusedSimpArgs false
set_option linter.unusedSectionVars false
set_option linter.unnecessarySimpa false
set_option maxRecDepth 100000
namespace Go.Proofs.YtdbiffjdomokfaaGreat
open Go.Ab
attribute [local simp] bD bp bl bC bB cV lj bP bt bA dc db cg bR aV cm List.take_of_length_le
def TN(h:vU):Value := .agg #[.int .u8 h.lv.toNat,.int .u32 h.cats.toNat,.int .u8 h.num.toNat]
def TK(i:eE):Value := .agg #[.int .u8 i.h.lv.toNat,.int .u32 i.h.cats.toNat,.int .u8 i.h.num.toNat,.int .i64 i.n]
def Tr(v:jz):Value := .agg #[.int .u8 v.lv.toNat,.int .u32 v.cats.toNat]
def vk(h:vU):AV := .agg [a8 h.lv,aG h.cats,a8 h.num]
def uL(i:eE):AV := .agg [a8 i.h.lv,aG i.h.cats,a8 i.h.num,aI i.n]
def tF(v:jz):AV := .agg [a8 v.lv,aG v.cats]
theorem CC(h:vU):fP (vk h)=some (TN h):=rfl
theorem HG(i:eE):fP (uL i)=some (TK i):=rfl
theorem Cw(v:jz):fP (tF v)=some (Tr v):=rfl
theorem Re:(fun(e:Bool)(a b c:Int)(n:Int)=>bz env.P (Instr.checkKey e 10000 45 (.agg #[.int .u8 a,.int .u32 b,.int .u8 c,.int .i64 n])))=fun _ _ _ _ _=>some ():=by kernel_rfl
theorem Rf:(fun(e:Bool)(a b c:Int)=>bz env.P (Instr.checkKey e 10000 40 (.agg #[.int .u8 a,.int .u32 b,.int .u8 c])))=fun _ _ _ _=>some ():=by kernel_rfl
theorem Rd:(fun(e:Bool)(a b:Int)=>bz env.P (Instr.checkKey e 10000 35 (.agg #[.int .u8 a,.int .u32 b])))=fun _ _ _=>some ():=by kernel_rfl
theorem Fw(d:TypeDesc)(u v:Array Value):Instr.sameNow d (.agg u) (.agg v)=none:=by
 unfold Instr.sameNow
 cases d<;>rfl
theorem OI{t:TypeId}{xs ys:List AV}{us vs:List Value}{b:Bool}(hok:Ba env.P 8 t=true)(h:lZ env.P 8 t xs ys=some b)(hu:nH xs=some us)(hv:nH ys=some vs)(hl:xs.length=env.P.cellsOf t)(hl':ys.length=env.P.cellsOf t)(ht:dD env.P t=some true) :
 bz env.P (Op.equal t (.agg us.toArray) (.agg vs.toArray))=some b:=by
 obtain⟨u,v,h1,h2,h3⟩:=OJ 8 9992 t xs ys us vs b hok h hu hv hl hl'
 unfold Ab.qZ at h1 h2
 rw[ht]at h1 h2
 dsimp only at h1 h2
 cases h1
 cases h2
 exact h3
theorem KF:Pg env.P 45 TK where
 chk:=fun e a=>congrFun (congrFun (congrFun (congrFun (congrFun Re e) _) _) _) _
 eq:=fun a b=>by
  have h:=OI (t:=45) (xs:=[a8 a.h.lv,aG a.h.cats,a8 a.h.num,aI a.n]) (ys:=[a8 b.h.lv,aG b.h.cats,a8 b.h.num,aI b.n]) (b:=decide (a=b)) (by kernel_rfl)
   (by obtain⟨⟨a1,a2,a3⟩,a4⟩:=a;obtain⟨⟨b1,b2,b3⟩,b4⟩:=b;simp[lZ,gb,and_assoc,Bool.and_assoc]) rfl rfl (by kernel_rfl) (by kernel_rfl) (by kernel_rfl)
  exact h
 now:=fun d _ a b=>Fw d _ _
 und:=by kernel_rfl
 bits:=fun a=>by simp[TK,Instr.sameBits]
theorem FK:Pg env.P 40 TN where
 chk:=fun e a=>congrFun (congrFun (congrFun (congrFun Rf e) _) _) _
 eq:=fun a b=>by
  have h:=OI (t:=40) (xs:=[a8 a.lv,aG a.cats,a8 a.num]) (ys:=[a8 b.lv,aG b.cats,a8 b.num]) (b:=decide (a=b)) (by kernel_rfl)
   (by obtain⟨a1,a2,a3⟩:=a;obtain⟨b1,b2,b3⟩:=b;simp[lZ,gb,and_assoc,Bool.and_assoc]) rfl rfl (by kernel_rfl) (by kernel_rfl) (by kernel_rfl)
  exact h
 now:=fun d _ a b=>Fw d _ _
 und:=by kernel_rfl
 bits:=fun a=>by simp[TN,Instr.sameBits]
theorem FJ:Pg env.P 35 Tr where
 chk:=fun e a=>congrFun (congrFun (congrFun Rd e) _) _
 eq:=fun a b=>by
  have h:=OI (t:=35) (xs:=[a8 a.lv,aG a.cats]) (ys:=[a8 b.lv,aG b.cats]) (b:=decide (a=b)) (by kernel_rfl)
   (by obtain⟨a1,a2⟩:=a;obtain⟨b1,b2⟩:=b;simp[lZ,gb,and_assoc,Bool.and_assoc]) rfl rfl (by kernel_rfl) (by kernel_rfl) (by kernel_rfl)
  exact h
 now:=fun d _ a b=>Fw d _ _
 und:=by kernel_rfl
 bits:=fun a=>by simp[Tr,Instr.sameBits]
end Go.Proofs.YtdbiffjdomokfaaGreat
namespace Go.Proofs.YtdbiffjdomokfaaGreat
open Go.Ab
attribute [local simp] bD bp bl bC bB cV lj bP bt bA dc db cg bR aV cm List.take_of_length_le
structure cE (H H':ab):Prop where
 fr:Fr H'
 old : ∀q b,H.get q=some b→H'.get q=some b
theorem cE.refl{H:ab}(h:Fr H):cE H H:=⟨h,fun _ _ h=>h⟩
theorem cE.trans{H H' H'':ab}(h:cE H H')(h':cE H' H''):cE H H'':=⟨h'.fr,fun q b hq=>h'.old q b (h.old q b hq)⟩
theorem cE.cons{H:ab}(hF:Fr H)(d t:Nat)(b:bN):cE H ((⟨d,t,H.gen d t,0⟩,some b) :: H) :=
 ⟨by simp(maxDischargeDepth:=12) [ab.get_put,aq,an,Fr.nil,aD,ah,ai,ae,af,ar,ao,ad, *],fun q c hq=>by rw[ab.po,if_neg (pS hF (by rw[hq];rfl) _ _ _)];exact hq⟩
theorem k6{f:FuncId}(hm:(env.mode f == 2)=true){dep:Nat}{H:ab}{r:Ref}{first args captured:List AV}{y:AV}{K:AV→ab→Prop}{m:Mk K}
 (h : ∃H',bV env dep (.fn f) (first++args++captured) H=some (y,H')∧cE H H') (hk : ∀H',cE H H'→K y H') :
 aO (bo env true (bj env) (bV env dep) H r (some (.fn (.func f) first captured)) args) K m:=by
 obtain⟨H',h1,h2⟩:=h
 refine pH (v:=y) (H:=H') ?_ (hk H' h2)
 rw[Ak hm]
 exact h1
theorem fA{f:FuncId}{fn:Func}{c:Code}{dep:Nat}{args:List AV}{H:ab}{y:AV}(hm:env.mode f=2)(hal:env.allowed f=true)(hf:env.P.funcs[f]?=some fn)(hc:fn.body=some c)(hl:Nat.ble args.length fn.ntmps=true)
 (h:bT env fn (dep+1) [.code c] (rI 0 args) H fun x H1=>x=y∧cE H H1) (hsp:env.thrSpec f args H=none:=by rfl) : ∃H',bV env dep (.fn f) args H=some (y,H')∧cE H H':=by
 obtain⟨y',H',h1,rfl,h3⟩:=my (Q:=fun x H1=>x=y∧cE H H1) hm hal hf hc hl h hsp
 exact⟨H',h1,h3⟩
structure vT (H:ab) (rh:Ref) (ops:List (bG × AV)) (ents:List (eE × AV)):Prop where
 box : ∃xo vo rm,H.get rh=some ⟨2,[.agg [xo,.mp rm]],false,false⟩∧iw 17 (eV ops) H xo vo∧H.get rm=some (bw (cH uL ents))
theorem vT.grow{H H':ab}{rh:Ref}{ops:List (bG × AV)}{ents:List (eE × AV)}(h:vT H rh ops ents)(g:cE H H'):vT H' rh ops ents:=by
 obtain⟨xo,vo,rm,h1,h2,h3⟩:=h.box
 refine⟨xo,vo,rm,g.old _ _ h1,?_,g.old _ _ h3⟩
 rcases h2 with h2 | ⟨r,c,fz,e1,e2,e3⟩
 ·exact .inl h2
 ·exact .inr ⟨r,c,fz,e1,g.old _ _ e2,e3⟩
def gC(ents:List (eE × AV))(i:eE):Bool:=match bZ i ents with | some (.v (.bool b))=>b | _=>false
def pY(ents:List (eE × AV)):Prop :=∀p∈ents,p.2=aB true
theorem LZ{ents:List (eE × AV)}(h:pY ents)(i:eE):(bZ i ents).getD (aB false)=aB (gC ents i):=by
 unfold gC
 induction ents with
 | nil=>rfl
 | cons p l ih =>
  unfold bZ
  split
  ·rename_i hp;rw[h p List.mem_cons_self];rfl
  ·exact ih fun q hq=>h q (List.mem_cons_of_mem _ hq)
def sE(ents:List (eE × AV))(o:bG)(i:eE):Bool:=gC ents i&&nP (RF i) (JZ o)
theorem Kz{g:dk}{rm:Ref}{ents:List (eE × AV)}(hb:pY ents)(hr:g rm=some (bw (cH uL ents)))(lx:UInt8)(lu:UInt32)(lW:UInt8)(jx:Int):da env.P g 196 (some (.mp rm)) (some (.agg [a8 lx,aG lu,a8 lW,aI jx])) false=some (aB (gC ents (⟨⟨lx,lu,lW⟩,jx⟩:eE)),[]):=by
 have h:=u5 KF HG (t:=196) (et:=4) (by kernel_rfl) (z:=aB false) (by kernel_rfl) hr (⟨⟨lx,lu,lW⟩,jx⟩:eE) false
 rw[LZ hb]at h
 exact h
section
variable(dep:Nat){H:ab}(hF:Fr H){rh:Ref}{ops:List (bG × AV)}{ents:List (eE × AV)}(hh:vT H rh ops ents)(hb:pY ents)
include hF hh hb
theorem Ke(bh:UInt8)(aQ:UInt8)(aP:UInt32)(aW:UInt8)(aY:Int)(bc:UInt8)(ba:UInt32)(bf:UInt8)(bg:Int)(au:Int)(az:UInt8)(ay:UInt32)(ax:UInt8)(aw:Int)(aC:UInt8)(aA:UInt32)(lx:UInt8)(lu:UInt32)(lW:UInt8)(jx:Int){x:AV}{al:List Int}(hx:Sl 1 (rows al) x) : ∃H',bV env dep (.fn 154) [.ptr rh 0 0,.agg [a8 bh,a8 aQ,aG aP,a8 aW,aI aY,a8 bc,aG ba,a8 bf,aI bg,aI au,a8 az,aG ay,a8 ax,aI aw,a8 aC,aG aA,x],.agg [a8 lx,aG lu,a8 lW,aI jx]] H=some (aB (sE ents (⟨bh,⟨aQ,aP,aW⟩,aY,⟨⟨⟨bc,ba,bf⟩,bg⟩,au⟩,⟨⟨az,ay,ax⟩,aw⟩,⟨aC,aA⟩,al⟩:bG) (⟨⟨lx,lu,lW⟩,jx⟩:eE)),H')∧cE H H':=by
 refine fA (fn:=Tryz.f154) (c:=iS) (by kernel_rfl) (by kernel_rfl) (by kernel_rfl) (by kernel_rfl) (by kernel_rfl) ?_
 refine nj _ _ _ _ _ _ fun g=>?_
 obtain⟨xo,vo,rm,h1,h2,h3⟩:=hh.box
 have l1:(H.get rh).isSome=true:=by rw[h1];rfl
 have l3:(H.get rm).isSome=true:=by rw[h3];rfl
 have hlk:=fun(H':ab)(h:H'.get rm=some (bw (cH uL ents)))=>Kz (g:=H'.get) hb h lx lu lW jx
 have hso:=h2.r
 have hgr : ∀H',Fr H'→(∀q b,H.get q=some b→H'.get q=some b)→cE H H':=fun H' a b=>⟨a,b⟩
 have hfin : ∀b1 b2:bN,cE H ((⟨dep+1,5,H.gen (dep+1) 5,0⟩,some b2) :: (⟨dep+1,4,H.gen (dep+1) 4,0⟩,some b1) :: H):=fun b1 b2=>⟨by simp(maxDischargeDepth:=12) [ab.get_put,aq,an,Fr.nil,aD,ah,ai,ae,af,ar,ao,ad, *],fun q c hq=>by
  have lq:(H.get q).isSome=true:=by rw[hq];rfl
  simp[ah hF lq,hq]⟩
 unfold sE
 cases ht:gC ents (⟨⟨lx,lu,lW⟩,jx⟩:eE) with
 | false =>
  simp[ah,ai,ae,af,ad, *,fg,hx.r]
 | true =>
  simp[ah,ai,ae,af,ad, *,fg,hx.r]
  all_goals rfl
theorem Ov(lx:UInt8)(lu:UInt32)(lW:UInt8)(jx:Int){q:Ref}(hq:H.get q=some ⟨1,[.ptr rh 0 0],false,false⟩) : ∃H',bV env dep (.fn 157) [.agg [a8 lx,aG lu,a8 lW,aI jx],.ptr q 0 0] H=some (aB (gC ents (⟨⟨lx,lu,lW⟩,jx⟩:eE)),H')∧cE H H':=by
 refine fA (fn:=Tryz.f157) (c:=gO) (by kernel_rfl) (by kernel_rfl) (by kernel_rfl) (by kernel_rfl) (by kernel_rfl) ?_
 refine lM _ _ _ _ _ fun g=>?_
 obtain⟨xo,vo,rm,h1,h2,h3⟩:=hh.box
 have l1:(H.get rh).isSome=true:=by rw[h1];rfl
 have l2:(H.get q).isSome=true:=by rw[hq];rfl
 have l3:(H.get rm).isSome=true:=by rw[h3];rfl
 have hlk:=fun(H':ab)(h:H'.get rm=some (bw (cH uL ents)))=>Kz (g:=H'.get) hb h lx lu lW jx
 have hso:=h2.r
 have hfin : ∀b1:bN,cE H ((⟨dep+1,2,H.gen (dep+1) 2,0⟩,some b1) :: H):=fun b1=>cE.cons hF _ _ _
 simp[ah,ai,ae,af,ad, *,gS]
theorem O8(bh:UInt8)(aQ:UInt8)(aP:UInt32)(aW:UInt8)(aY:Int)(bc:UInt8)(ba:UInt32)(bf:UInt8)(bg:Int)(au:Int)(az:UInt8)(ay:UInt32)(ax:UInt8)(aw:Int)(aC:UInt8)(aA:UInt32)(lx:UInt8)(lu:UInt32)(lW:UInt8)(jx:Int){x:AV}{al:List Int}(hx:Sl 1 (rows al) x){q p:Ref}(hq:H.get q=some ⟨1,[.ptr rh 0 0],false,false⟩)(hp:H.get p=some ⟨17,[.agg [a8 bh,a8 aQ,aG aP,a8 aW,aI aY,a8 bc,aG ba,a8 bf,aI bg,aI au,a8 az,aG ay,a8 ax,aI aw,a8 aC,aG aA,x]],false,false⟩) :
 ∃H',bV env dep (.fn 167) [.agg [a8 lx,aG lu,a8 lW,aI jx],.ptr q 0 0,.ptr p 0 0] H=some (aB (!sE ents (⟨bh,⟨aQ,aP,aW⟩,aY,⟨⟨⟨bc,ba,bf⟩,bg⟩,au⟩,⟨⟨az,ay,ax⟩,aw⟩,⟨aC,aA⟩,al⟩:bG) (⟨⟨lx,lu,lW⟩,jx⟩:eE)),H')∧cE H H':=by
 refine fA (fn:=Tryz.f167) (c:=iI) (by kernel_rfl) (by kernel_rfl) (by kernel_rfl) (by kernel_rfl) (by kernel_rfl) ?_
 refine mR _ _ _ _ _ _ fun g=>?_
 have l2:(H.get q).isSome=true:=by rw[hq];rfl
 have l3:(H.get p).isSome=true:=by rw[hp];rfl
 have hg : ∀b1:bN,cE H ((⟨dep+1,3,H.gen (dep+1) 3,0⟩,some b1) :: H):=fun b1=>cE.cons hF _ _ _
 have hs:=fun b1=>Ke (dep+1) (hg b1).fr (hh.grow (hg b1)) hb bh aQ aP aW aY bc ba bf bg au az ay ax aw aC aA lx lu lW jx hx
 simp[ah,ai,ae,af,ad, *,iK,hx.r]
 refine k6 (by kernel_rfl) (hs _) fun H1 hG=>?_
 have hfin:=(hg _).trans hG
 simp[hfin]
end
def lb(l:List eE):List AV:=l.map uL
@[simp] theorem VB(l:List eE):(lb l).length=l.length:=by simp[lb]
def JB(p:eE→Bool):List eE→Nat→Int
 | [],_ => -1
 | i :: l,k=>if p i then k else JB p l (k+1)
theorem HF(p:eE→Bool) : ∀(l:List eE)(k:Nat),decide (0≤JB p l k)=l.any p
 | [],k=>rfl
 | i :: l,k=>by
  unfold JB
  rw[List.any_cons]
  cases h:p i with
  | true=>simp
  | false=>simpa using HF p l (k+1)
section
variable(dep:Nat){F:FuncId}(hm:(env.mode F == 2)=true){caps:List AV}{l:List eE}{x0:AV}(hx:Sl 4 (lb l) x0)(hl:l.length<100000){H0:ab}{p:eE→Bool}
include hm hx hl
theorem Md(hp : ∀i H,cE H0 H →∃H',bV env (dep+1) (.fn F) ([]++[uL i]++caps) H=some (aB (p i),H')∧cE H H'){Q:AV→ab→Prop} : ∀(s:List eE)(k:Nat)(i:Int)(H:ab),l.drop k=s→k≤l.length→i=k→cE H0 H→(∀y H',y=aI (JB p s k)→cE H0 H'→Q y H') →
 bT env Tryz.f166 (dep+1) bI [(8,aI i),(0,x0),(1,.fn (.func F) [] caps),(7,aI l.length)] H Q:=by
 intro s
 induction s with
 | nil =>
  rintro k i H hs hk rfl hG hQ
  obtain rfl:=drop_nil hs hk
  have hfin:=hQ _ H rfl hG
  refine dC _ _ _ _ _ _ _ fun g=>?_
  clear hp hQ
  simp[ah,ai,ae,af,ad, *,cf]
  all_goals exact hfin
 | cons a s ih =>
  rintro k i H hs hk rfl hG hQ
  obtain⟨hlt,hg,hs',hg'⟩:=drop_cons hs
  have e3:=IntWalk.i64_in ((k:Int)+1) (by omega)
  have hrd:eL (lb l) k 0 4 true=some (uL a):=by simp[lb,hg',uL]
  have hc:=hp a H hG
  have hih:=fun H' h1=>ih (k+1) ((k:Int)+1) H' hs' (by omega) (by simp) h1
  have hlt':(k:Int)<l.length:=by omega
  clear ih hp hs hs' hg hg'
  refine dC _ _ _ _ _ _ _ fun g=>?_
  simp[ah,ai,ae,af,ad, *,cf,hx.r,hx.idx]
  refine k6 hm hc fun H1 hG1=>?_
  have hG2:=hG.trans hG1
  unfold JB at hQ
  cases hpa:p a with
  | true =>
   rw[hpa]at hQ
   simp
   exact hQ _ _ (by simp) hG2
  | false =>
   rw[hpa]at hQ
   simp[e3]
   exact hih H1 hG2 (fun y H' ey h=>hQ y H' (by simpa using ey) h)
theorem AK{H:ab}(hF:Fr H)(hp : ∀i H',cE H H' →∃H'',bV env (dep+2) (.fn F) ([]++[uL i]++caps) H'=some (aB (p i),H'')∧cE H' H'') :
 ∃H',bV env dep (.fn 156) [x0,.fn (.func F) [] caps] H=some (aB (l.any p),H')∧cE H H':=by
 have hi : ∃H',bV env (dep+1) (.fn 166) ([]++[x0,.fn (.func F) [] caps]++[]) H=some (aI (JB p l 0),H')∧cE H H':=by
  refine fA (fn:=Tryz.f166) (c:=cr) (by kernel_rfl) (by kernel_rfl) (by kernel_rfl) (by kernel_rfl) (by kernel_rfl) ?_
  refine fY _ _ _ _ _ fun g=>?_
  have hfin:=Md (dep+1) hm hx hl (p:=p) hp (Q:=fun x H1=>x=aI (JB p l 0)∧cE H H1) l 0 0 H rfl (by omega) rfl (cE.refl hF) (fun y H' e h=>⟨e,h⟩)
  clear hp
  simp[ah,ai,ae,af,ad, *,dR,hx.r]
  all_goals exact hfin
 refine fA (fn:=Tryz.f156) (c:=dA) (by kernel_rfl) (by kernel_rfl) (by kernel_rfl) (by kernel_rfl) (by kernel_rfl) ?_
 refine fC _ _ _ _ _ fun g=>?_
 unfold dB
 refine k6 (by kernel_rfl) hi fun H1 hG=>?_
 have:=HF p l 0
 simp[hG,←this]
end
end Go.Proofs.YtdbiffjdomokfaaGreat
