/-
  What a history tells of an operation: what its parts answer. No statement of a seat is proved here.
-/
import Derived.Test.YtmkmimgokagimaaGreatChFns2
import Derived.Test.YtmkmimgokagimaaGreatRecFns
import Derived.Test.YtmkmimgokagimaaGreatMChMath
import Derived.Test.YtmkmimgokagimaaGreatLeVc8
set_option linter.unusedVariables false
set_option linter.unusedSimpArgs false
set_option linter.unusedSectionVars false
set_option linter.unnecessarySimpa false
set_option maxRecDepth 100000
namespace Go.Proofs.YtmkmimgokagimaaGreat
open Go.Ab
attribute [local simp] bJ bw bt bG bF cL kN bX bx bD cR cQ cr bY bh ct List.take_of_length_le
def WR(h:nY):Value := .agg #[.int .u8 h.lv.toNat,.int .u32 h.cats.toNat,.int .u8 h.num.toNat]
def WN(i:eJ):Value := .agg #[.int .u8 i.h.lv.toNat,.int .u32 i.h.cats.toNat,.int .u8 i.h.num.toNat,.int .i64 i.n]
def Wt(v:jS):Value := .agg #[.int .u8 v.lv.toNat,.int .u32 v.cats.toNat]
def xA(h:nY):AV := .agg [a8 h.lv,aF h.cats,a8 h.num]
def xz(i:eJ):AV := .agg [a8 i.h.lv,aF i.h.cats,a8 i.h.num,aI i.n]
def vx(v:jS):AV := .agg [a8 v.lv,aF v.cats]
theorem FB(h:nY):fA (xA h)=some (WR h):=rfl
theorem KF(i:eJ):fA (xz i)=some (WN i):=rfl
theorem Fv(v:jS):fA (vx v)=some (Wt v):=rfl
theorem Ul:(fun(e:Bool)(a b c:Int)(n:Int)=>bL env.P (Instr.checkKey e 10000 33 (.agg #[.int .u8 a,.int .u32 b,.int .u8 c,.int .i64 n])))=fun _ _ _ _ _=>some ():=by kernel_rfl
theorem Um:(fun(e:Bool)(a b c:Int)=>bL env.P (Instr.checkKey e 10000 31 (.agg #[.int .u8 a,.int .u32 b,.int .u8 c])))=fun _ _ _ _=>some ():=by kernel_rfl
theorem Uk:(fun(e:Bool)(a b:Int)=>bL env.P (Instr.checkKey e 10000 29 (.agg #[.int .u8 a,.int .u32 b])))=fun _ _ _=>some ():=by kernel_rfl
theorem IA(d:TypeDesc)(u v:Array Value):Instr.sameNow d (.agg u) (.agg v)=none:=by
 unfold Instr.sameNow
 cases d<;>rfl
theorem RA{t:TypeId}{xs ys:List AV}{us vs:List Value}{b:Bool}(hok:DX env.P 8 t=true)(h:ke env.P 8 t xs ys=some b)(hu:oY xs=some us)(hv:oY ys=some vs)(hl:xs.length=env.P.cellsOf t)(hl':ys.length=env.P.cellsOf t)(ht:dt env.P t=some true) :
 bL env.P (Op.equal t (.agg us.toArray) (.agg vs.toArray))=some b:=by
 obtain⟨u,v,h1,h2,h3⟩:=RB 8 9992 t xs ys us vs b hok h hu hv hl hl'
 unfold Ab.tn at h1 h2
 rw[ht]at h1 h2
 dsimp only at h1 h2
 cases h1
 cases h2
 exact h3
theorem Nw:Sa env.P 33 WN where
 chk:=fun e a=>congrFun (congrFun (congrFun (congrFun (congrFun Ul e) _) _) _) _
 eq:=fun a b=>by
  have h:=RA (t:=33) (xs:=[a8 a.h.lv,aF a.h.cats,a8 a.h.num,aI a.n]) (ys:=[a8 b.h.lv,aF b.h.cats,a8 b.h.num,aI b.n]) (b:=decide (a=b)) (by kernel_rfl)
   (by obtain⟨⟨a1,a2,a3⟩,a4⟩:=a;obtain⟨⟨b1,b2,b3⟩,b4⟩:=b;simp[ke,eE,and_assoc,Bool.and_assoc]) rfl rfl (by kernel_rfl) (by kernel_rfl) (by kernel_rfl)
  exact h
 now:=fun d _ a b=>IA d _ _
 und:=by kernel_rfl
 bits:=fun a=>by simp[WN,Instr.sameBits]
theorem IN:Sa env.P 31 WR where
 chk:=fun e a=>congrFun (congrFun (congrFun (congrFun Um e) _) _) _
 eq:=fun a b=>by
  have h:=RA (t:=31) (xs:=[a8 a.lv,aF a.cats,a8 a.num]) (ys:=[a8 b.lv,aF b.cats,a8 b.num]) (b:=decide (a=b)) (by kernel_rfl)
   (by obtain⟨a1,a2,a3⟩:=a;obtain⟨b1,b2,b3⟩:=b;simp[ke,eE,and_assoc,Bool.and_assoc]) rfl rfl (by kernel_rfl) (by kernel_rfl) (by kernel_rfl)
  exact h
 now:=fun d _ a b=>IA d _ _
 und:=by kernel_rfl
 bits:=fun a=>by simp[WR,Instr.sameBits]
theorem IM:Sa env.P 29 Wt where
 chk:=fun e a=>congrFun (congrFun (congrFun Uk e) _) _
 eq:=fun a b=>by
  have h:=RA (t:=29) (xs:=[a8 a.lv,aF a.cats]) (ys:=[a8 b.lv,aF b.cats]) (b:=decide (a=b)) (by kernel_rfl)
   (by obtain⟨a1,a2⟩:=a;obtain⟨b1,b2⟩:=b;simp[ke,eE,and_assoc,Bool.and_assoc]) rfl rfl (by kernel_rfl) (by kernel_rfl) (by kernel_rfl)
  exact h
 now:=fun d _ a b=>IA d _ _
 und:=by kernel_rfl
 bits:=fun a=>by simp[Wt,Instr.sameBits]
end Go.Proofs.YtmkmimgokagimaaGreat
namespace Go.Proofs.YtmkmimgokagimaaGreat
open Go.Ab
attribute [local simp] bJ bw bt bG bF cL kN bX bx bD cR cQ cr bY bh ct List.take_of_length_le
structure bQ (H H':ad):Prop where
 fr:Fr H'
 old : ∀q b,H.get q=some b→H'.get q=some b
theorem bQ.refl{H:ad}(h:Fr H):bQ H H:=⟨h,fun _ _ h=>h⟩
theorem bQ.trans{H H' H'':ad}(h:bQ H H')(h':bQ H' H''):bQ H H'':=⟨h'.fr,fun q b hq=>h'.old q b (h.old q b hq)⟩
theorem bQ.cons{H:ad}(hF:Fr H)(d t:Nat)(b:bP):bQ H ((⟨d,t,H.gen d t,0⟩,some b) :: H) :=
 ⟨by simp(maxDischargeDepth:=12) [ad.ao,aD,aq,Fr.nil,aJ,ah,ai,ae,af,aC,ar,ab, *],fun q c hq=>by rw[ad.qE,if_neg (nJ hF (by rw[hq];rfl) _ _ _)];exact hq⟩
theorem lg{f:FuncId}(hm:(env.mode f == 2)=true){dep:Nat}{H:ad}{r:Ref}{first args captured:List AV}{y:AV}{K:AV→ad→Prop}{m:Mk K}
 (h : ∃H',bO env dep (.fn f) (first++args++captured) H=some (y,H')∧bQ H H') (hk : ∀H',bQ H H'→K y H') :
 aL (bo env true (bj env) (bO env dep) H r (some (.fn (.func f) first captured)) args) K m:=by
 obtain⟨H',h1,h2⟩:=h
 refine FO (v:=y) (H:=H') ?_ (hk H' h2)
 rw[CV hm]
 exact h1
theorem eO{f:FuncId}{fn:Func}{c:Code}{dep:Nat}{args:List AV}{H:ad}{y:AV}(hm:env.mode f=2)(hal:env.allowed f=true)(hf:env.P.funcs[f]?=some fn)(hc:fn.body=some c)(hl:Nat.ble args.length fn.ntmps=true)
 (h:b7 env fn (dep+1) [.code c] (pM 0 args) H fun x H1=>x=y∧bQ H H1) : ∃H',bO env dep (.fn f) args H=some (y,H')∧bQ H H':=by
 obtain⟨y',H',h1,rfl,h3⟩:=iT (Q:=fun x H1=>x=y∧bQ H H1) hm hal hf hc hl h
 exact⟨H',h1,h3⟩
structure yK (H:ad) (rh:Ref) (ops:List (bz × AV)) (ents:List (eJ × AV)):Prop where
 box : ∃xo vo rm,H.get rh=some ⟨2,[.agg [xo,.mp rm]],false,false⟩∧iP 17 (ff ops) H xo vo∧H.get rm=some (bE (cI xz ents))
theorem yK.grow{H H':ad}{rh:Ref}{ops:List (bz × AV)}{ents:List (eJ × AV)}(h:yK H rh ops ents)(g:bQ H H'):yK H' rh ops ents:=by
 obtain⟨xo,vo,rm,h1,h2,h3⟩:=h.box
 refine⟨xo,vo,rm,g.old _ _ h1,?_,g.old _ _ h3⟩
 rcases h2 with h2 | ⟨r,c,fz,e1,e2,e3⟩
 ·exact .inl h2
 ·exact .inr ⟨r,c,fz,e1,g.old _ _ e2,e3⟩
def gM(ents:List (eJ × AV))(i:eJ):Bool:=match bH i ents with | some (.v (.bool b))=>b | _=>false
def ri(ents:List (eJ × AV)):Prop :=∀p∈ents,p.2=aB true
theorem OW{ents:List (eJ × AV)}(h:ri ents)(i:eJ):(bH i ents).getD (aB false)=aB (gM ents i):=by
 unfold gM
 induction ents with
 | nil=>rfl
 | cons p l ih =>
  unfold bH
  split
  ·rename_i hp;rw[h p List.mem_cons_self];rfl
  ·exact ih fun q hq=>h q (List.mem_cons_of_mem _ hq)
def vg(ents:List (eJ × AV))(o:bz)(i:eJ):Bool:=gM ents i&&nd (UL i) (Lt o)
theorem Nq{g:dy}{rm:Ref}{ents:List (eJ × AV)}(hb:ri ents)(hr:g rm=some (bE (cI xz ents)))(kg:UInt8)(kf:UInt32)(kM:UInt8)(iE:Int):cS env.P g 264 (some (.mp rm)) (some (.agg [a8 kg,aF kf,a8 kM,aI iE])) false=some (aB (gM ents (⟨⟨kg,kf,kM⟩,iE⟩:eJ)),[]):=by
 have h:=xQ Nw KF (t:=264) (et:=4) (by kernel_rfl) (z:=aB false) (by kernel_rfl) hr (⟨⟨kg,kf,kM⟩,iE⟩:eJ) false
 rw[OW hb]at h
 exact h
section
variable(dep:Nat){H:ad}(hF:Fr H){rh:Ref}{ops:List (bz × AV)}{ents:List (eJ × AV)}(hh:yK H rh ops ents)(hb:ri ents)
include hF hh hb
theorem M6(ba:UInt8)(aO:UInt8)(aN:UInt32)(aT:UInt8)(aV:Int)(aX:UInt8)(aW:UInt32)(aY:UInt8)(aZ:Int)(an:Int)(ay:UInt8)(ax:UInt32)(aw:UInt8)(au:Int)(aA:UInt8)(az:UInt32)(kg:UInt8)(kf:UInt32)(kM:UInt8)(iE:Int){x:AV}{al:List Int}(hx:Sl 1 (rows al) x) : ∃H',bO env dep (.fn 230) [.ptr rh 0 0,.agg [a8 ba,a8 aO,aF aN,a8 aT,aI aV,a8 aX,aF aW,a8 aY,aI aZ,aI an,a8 ay,aF ax,a8 aw,aI au,a8 aA,aF az,x],.agg [a8 kg,aF kf,a8 kM,aI iE]] H=some (aB (vg ents (⟨ba,⟨aO,aN,aT⟩,aV,⟨⟨⟨aX,aW,aY⟩,aZ⟩,an⟩,⟨⟨ay,ax,aw⟩,au⟩,⟨aA,az⟩,al⟩:bz) (⟨⟨kg,kf,kM⟩,iE⟩:eJ)),H')∧bQ H H':=by
 refine eO (fn:=Tryz.f230) (c:=jj) (by kernel_rfl) (by kernel_rfl) (by kernel_rfl) (by kernel_rfl) (by kernel_rfl) ?_
 refine oI _ _ _ _ _ _ fun g=>?_
 obtain⟨xo,vo,rm,h1,h2,h3⟩:=hh.box
 have l1:(H.get rh).isSome=true:=by rw[h1];rfl
 have l3:(H.get rm).isSome=true:=by rw[h3];rfl
 have hlk:=fun(H':ad)(h:H'.get rm=some (bE (cI xz ents)))=>Nq (g:=H'.get) hb h kg kf kM iE
 have hso:=h2.r
 have hgr : ∀H',Fr H'→(∀q b,H.get q=some b→H'.get q=some b)→bQ H H':=fun H' a b=>⟨a,b⟩
 have hfin : ∀b1 b2:bP,bQ H ((⟨dep+1,5,H.gen (dep+1) 5,0⟩,some b2) :: (⟨dep+1,4,H.gen (dep+1) 4,0⟩,some b1) :: H):=fun b1 b2=>⟨by simp(maxDischargeDepth:=12) [ad.ao,aD,aq,Fr.nil,aJ,ah,ai,ae,af,aC,ar,ab, *],fun q c hq=>by
  have lq:(H.get q).isSome=true:=by rw[hq];rfl
  simp[ah hF lq,hq]⟩
 unfold vg
 cases ht:gM ents (⟨⟨kg,kf,kM⟩,iE⟩:eJ) with
 | false =>
  simp[ah,ai,ae,af,ab, *,fm,hx.r]
 | true =>
  simp[ah,ai,ae,af,ab, *,fm,hx.r]
  all_goals rfl
theorem Ro(kg:UInt8)(kf:UInt32)(kM:UInt8)(iE:Int){q:Ref}(hq:H.get q=some ⟨1,[.ptr rh 0 0],false,false⟩) : ∃H',bO env dep (.fn 233) [.agg [a8 kg,aF kf,a8 kM,aI iE],.ptr q 0 0] H=some (aB (gM ents (⟨⟨kg,kf,kM⟩,iE⟩:eJ)),H')∧bQ H H':=by
 refine eO (fn:=Tryz.f233) (c:=hZ) (by kernel_rfl) (by kernel_rfl) (by kernel_rfl) (by kernel_rfl) (by kernel_rfl) ?_
 refine mJ _ _ _ _ _ fun g=>?_
 obtain⟨xo,vo,rm,h1,h2,h3⟩:=hh.box
 have l1:(H.get rh).isSome=true:=by rw[h1];rfl
 have l2:(H.get q).isSome=true:=by rw[hq];rfl
 have l3:(H.get rm).isSome=true:=by rw[h3];rfl
 have hlk:=fun(H':ad)(h:H'.get rm=some (bE (cI xz ents)))=>Nq (g:=H'.get) hb h kg kf kM iE
 have hso:=h2.r
 have hfin : ∀b1:bP,bQ H ((⟨dep+1,2,H.gen (dep+1) 2,0⟩,some b1) :: H):=fun b1=>bQ.cons hF _ _ _
 simp[ah,ai,ae,af,ab, *,ij]
theorem R0(ba:UInt8)(aO:UInt8)(aN:UInt32)(aT:UInt8)(aV:Int)(aX:UInt8)(aW:UInt32)(aY:UInt8)(aZ:Int)(an:Int)(ay:UInt8)(ax:UInt32)(aw:UInt8)(au:Int)(aA:UInt8)(az:UInt32)(kg:UInt8)(kf:UInt32)(kM:UInt8)(iE:Int){x:AV}{al:List Int}(hx:Sl 1 (rows al) x){q p:Ref}(hq:H.get q=some ⟨1,[.ptr rh 0 0],false,false⟩)(hp:H.get p=some ⟨17,[.agg [a8 ba,a8 aO,aF aN,a8 aT,aI aV,a8 aX,aF aW,a8 aY,aI aZ,aI an,a8 ay,aF ax,a8 aw,aI au,a8 aA,aF az,x]],false,false⟩) :
 ∃H',bO env dep (.fn 242) [.agg [a8 kg,aF kf,a8 kM,aI iE],.ptr q 0 0,.ptr p 0 0] H=some (aB (!vg ents (⟨ba,⟨aO,aN,aT⟩,aV,⟨⟨⟨aX,aW,aY⟩,aZ⟩,an⟩,⟨⟨ay,ax,aw⟩,au⟩,⟨aA,az⟩,al⟩:bz) (⟨⟨kg,kf,kM⟩,iE⟩:eJ)),H')∧bQ H H':=by
 refine eO (fn:=Tryz.f242) (c:=ja) (by kernel_rfl) (by kernel_rfl) (by kernel_rfl) (by kernel_rfl) (by kernel_rfl) ?_
 refine nN _ _ _ _ _ _ fun g=>?_
 have l2:(H.get q).isSome=true:=by rw[hq];rfl
 have l3:(H.get p).isSome=true:=by rw[hp];rfl
 have hg : ∀b1:bP,bQ H ((⟨dep+1,3,H.gen (dep+1) 3,0⟩,some b1) :: H):=fun b1=>bQ.cons hF _ _ _
 have hs:=fun b1=>M6 (dep+1) (hg b1).fr (hh.grow (hg b1)) hb ba aO aN aT aV aX aW aY aZ an ay ax aw au aA az kg kf kM iE hx
 simp[ah,ai,ae,af,ab, *,jc,hx.r]
 refine lg (by kernel_rfl) (hs _) fun H1 hG=>?_
 have hfin:=(hg _).trans hG
 simp[hfin]
end
def lY(l:List eJ):List AV:=l.map xz
@[simp] theorem YH(l:List eJ):(lY l).length=l.length:=by simp[lY]
def Mm(p:eJ→Bool):List eJ→Nat→Int
 | [],_ => -1
 | i :: l,k=>if p i then k else Mm p l (k+1)
theorem KE(p:eJ→Bool) : ∀(l:List eJ)(k:Nat),decide (0≤Mm p l k)=l.any p
 | [],k=>rfl
 | i :: l,k=>by
  unfold Mm
  rw[List.any_cons]
  cases h:p i with
  | true=>simp
  | false=>simpa using KE p l (k+1)
section
variable(dep:Nat){F:FuncId}(hm:(env.mode F == 2)=true){caps:List AV}{l:List eJ}{x0:AV}(hx:Sl 4 (lY l) x0)(hl:l.length<100000){H0:ad}{p:eJ→Bool}
include hm hx hl
theorem Pb(hp : ∀i H,bQ H0 H →∃H',bO env (dep+1) (.fn F) ([]++[xz i]++caps) H=some (aB (p i),H')∧bQ H H'){Q:AV→ad→Prop} : ∀(s:List eJ)(k:Nat)(i:Int)(H:ad),l.drop k=s→k≤l.length→i=k→bQ H0 H→(∀y H',y=aI (Mm p s k)→bQ H0 H'→Q y H') →
 b7 env Tryz.f241 (dep+1) bS [(8,aI i),(0,x0),(1,.fn (.func F) [] caps),(7,aI l.length)] H Q:=by
 intro s
 induction s with
 | nil =>
  rintro k i H hs hk rfl hG hQ
  obtain rfl:=drop_nil hs hk
  have hfin:=hQ _ H rfl hG
  refine dC _ _ _ _ _ _ _ fun g=>?_
  clear hp hQ
  simp[ah,ai,ae,af,ab, *,cC]
  all_goals exact hfin
 | cons a s ih =>
  rintro k i H hs hk rfl hG hQ
  obtain⟨hlt,hg,hs',hg'⟩:=drop_cons hs
  have e3:=IntWalk.i64_in ((k:Int)+1) (by omega)
  have hrd:eQ (lY l) k 0 4 true=some (xz a):=by simp[lY,hg',xz]
  have hc:=hp a H hG
  have hih:=fun H' h1=>ih (k+1) ((k:Int)+1) H' hs' (by omega) (by simp) h1
  have hlt':(k:Int)<l.length:=by omega
  clear ih hp hs hs' hg hg'
  refine dC _ _ _ _ _ _ _ fun g=>?_
  simp[ah,ai,ae,af,ab, *,cC,hx.r,hx.idx]
  refine lg hm hc fun H1 hG1=>?_
  have hG2:=hG.trans hG1
  unfold Mm at hQ
  cases hpa:p a with
  | true =>
   rw[hpa]at hQ
   simp
   exact hQ _ _ (by simp) hG2
  | false =>
   rw[hpa]at hQ
   simp[e3]
   exact hih H1 hG2 (fun y H' ey h=>hQ y H' (by simpa using ey) h)
theorem Dl{H:ad}(hF:Fr H)(hp : ∀i H',bQ H H' →∃H'',bO env (dep+2) (.fn F) ([]++[xz i]++caps) H'=some (aB (p i),H'')∧bQ H' H'') :
 ∃H',bO env dep (.fn 232) [x0,.fn (.func F) [] caps] H=some (aB (l.any p),H')∧bQ H H':=by
 have hi : ∃H',bO env (dep+1) (.fn 241) ([]++[x0,.fn (.func F) [] caps]++[]) H=some (aI (Mm p l 0),H')∧bQ H H':=by
  refine eO (fn:=Tryz.f241) (c:=cF) (by kernel_rfl) (by kernel_rfl) (by kernel_rfl) (by kernel_rfl) (by kernel_rfl) ?_
  refine gl _ _ _ _ _ fun g=>?_
  have hfin:=Pb (dep+1) hm hx hl (p:=p) hp (Q:=fun x H1=>x=aI (Mm p l 0)∧bQ H H1) l 0 0 H rfl (by omega) rfl (bQ.refl hF) (fun y H' e h=>⟨e,h⟩)
  clear hp
  simp[ah,ai,ae,af,ab, *,dR,hx.r]
  all_goals exact hfin
 refine eO (fn:=Tryz.f232) (c:=dz) (by kernel_rfl) (by kernel_rfl) (by kernel_rfl) (by kernel_rfl) (by kernel_rfl) ?_
 refine fG _ _ _ _ _ fun g=>?_
 unfold dA
 refine lg (by kernel_rfl) hi fun H1 hG=>?_
 have:=KE p l 0
 simp[hG,←this]
end
end Go.Proofs.YtmkmimgokagimaaGreat
