/-
  What a history tells of an operation: what its parts answer. No statement of a seat is proved here.
-/
import Derived.Test.YtdbiffjdomokfaaGreatChFns2
import Derived.Test.YtdbiffjdomokfaaGreatRecFns
import Derived.Test.YtdbiffjdomokfaaGreatAbsKeys
import Derived.Test.YtdbiffjdomokfaaGreatAuVc8
set_option linter.unusedVariables false
set_option linter.unusedSimpArgs false
set_option linter.unusedSectionVars false
set_option linter.unnecessarySimpa false
set_option maxRecDepth 100000
namespace Go.Proofs.YtdbiffjdomokfaaGreat
open Go.Ab
attribute [local simp] bK bw bo bM bL dc kS bU bx bH dJ dI cp bX bh cC List.take_of_length_le
def Q7(h:zU):Value := .agg #[.int .u8 h.lv.toNat,.int .u32 h.cats.toNat,.int .u8 h.num.toNat]
def Q4(i:eY):Value := .agg #[.int .u8 i.h.lv.toNat,.int .u32 i.h.cats.toNat,.int .u8 i.h.num.toNat,.int .i64 i.n]
def QP(v:nw):Value := .agg #[.int .u8 v.lv.toNat,.int .u32 v.cats.toNat]
def tJ(h:zU):AV := .agg [a8 h.lv,aF h.cats,a8 h.num]
def s9(i:eY):AV := .agg [a8 i.h.lv,aF i.h.cats,a8 i.h.num,aI i.n]
def sg(v:nw):AV := .agg [a8 v.lv,aF v.cats]
theorem Bb(h:zU):fw (tJ h)=some (Q7 h):=rfl
theorem F0(i:eY):fw (s9 i)=some (Q4 i):=rfl
theorem A5(v:nw):fw (sg v)=some (QP v):=rfl
theorem OD:(fun(e:Bool)(a b c:Int)(n:Int)=>bu env.P (Instr.checkKey e 10000 45 (.agg #[.int .u8 a,.int .u32 b,.int .u8 c,.int .i64 n])))=fun _ _ _ _ _=>some ():=by kernel_rfl
theorem OE:(fun(e:Bool)(a b c:Int)=>bu env.P (Instr.checkKey e 10000 40 (.agg #[.int .u8 a,.int .u32 b,.int .u8 c])))=fun _ _ _ _=>some ():=by kernel_rfl
theorem OC:(fun(e:Bool)(a b:Int)=>bu env.P (Instr.checkKey e 10000 35 (.agg #[.int .u8 a,.int .u32 b])))=fun _ _ _=>some ():=by kernel_rfl
theorem DS(d:TypeDesc)(u v:Array Value):Instr.sameNow d (.agg u) (.agg v)=none:=by
 unfold Instr.sameNow
 cases d<;>rfl
theorem Ma{t:TypeId}{xs ys:List AV}{us vs:List Value}{b:Bool}(hok:zE env.P 8 t=true)(h:lC env.P 8 t xs ys=some b)(hu:mQ xs=some us)(hv:mQ ys=some vs)(hl:xs.length=env.P.cellsOf t)(hl':ys.length=env.P.cellsOf t)(ht:dR env.P t=some true) :
 bu env.P (Op.equal t (.agg us.toArray) (.agg vs.toArray))=some b:=by
 obtain⟨u,v,h1,h2,h3⟩:=Mb 8 9992 t xs ys us vs b hok h hu hv hl hl'
 unfold Ab.qa at h1 h2
 rw[ht]at h1 h2
 dsimp only at h1 h2
 cases h1
 cases h2
 exact h3
theorem IB:MJ env.P 45 Q4 where
 chk:=fun e a=>congrFun (congrFun (congrFun (congrFun (congrFun OD e) _) _) _) _
 eq:=fun a b=>by
  have h:=Ma (t:=45) (xs:=[a8 a.h.lv,aF a.h.cats,a8 a.h.num,aI a.n]) (ys:=[a8 b.h.lv,aF b.h.cats,a8 b.h.num,aI b.n]) (b:=decide (a=b)) (by kernel_rfl)
   (by obtain⟨⟨a1,a2,a3⟩,a4⟩:=a;obtain⟨⟨b1,b2,b3⟩,b4⟩:=b;simp[lC,fL,and_assoc,Bool.and_assoc]) rfl rfl (by kernel_rfl) (by kernel_rfl) (by kernel_rfl)
  exact h
 now:=fun d _ a b=>DS d _ _
 und:=by kernel_rfl
 bits:=fun a=>by simp[Q4,Instr.sameBits]
theorem D6:MJ env.P 40 Q7 where
 chk:=fun e a=>congrFun (congrFun (congrFun (congrFun OE e) _) _) _
 eq:=fun a b=>by
  have h:=Ma (t:=40) (xs:=[a8 a.lv,aF a.cats,a8 a.num]) (ys:=[a8 b.lv,aF b.cats,a8 b.num]) (b:=decide (a=b)) (by kernel_rfl)
   (by obtain⟨a1,a2,a3⟩:=a;obtain⟨b1,b2,b3⟩:=b;simp[lC,fL,and_assoc,Bool.and_assoc]) rfl rfl (by kernel_rfl) (by kernel_rfl) (by kernel_rfl)
  exact h
 now:=fun d _ a b=>DS d _ _
 und:=by kernel_rfl
 bits:=fun a=>by simp[Q7,Instr.sameBits]
theorem D5:MJ env.P 35 QP where
 chk:=fun e a=>congrFun (congrFun (congrFun OC e) _) _
 eq:=fun a b=>by
  have h:=Ma (t:=35) (xs:=[a8 a.lv,aF a.cats]) (ys:=[a8 b.lv,aF b.cats]) (b:=decide (a=b)) (by kernel_rfl)
   (by obtain⟨a1,a2⟩:=a;obtain⟨b1,b2⟩:=b;simp[lC,fL,and_assoc,Bool.and_assoc]) rfl rfl (by kernel_rfl) (by kernel_rfl) (by kernel_rfl)
  exact h
 now:=fun d _ a b=>DS d _ _
 und:=by kernel_rfl
 bits:=fun a=>by simp[QP,Instr.sameBits]
end Go.Proofs.YtdbiffjdomokfaaGreat
namespace Go.Proofs.YtdbiffjdomokfaaGreat
open Go.Ab
attribute [local simp] bK bw bo bM bL dc kS bU bx bH dJ dI cp bX bh cC List.take_of_length_le
structure cw (H H':ab):Prop where
 fr:Fr H'
 old : ∀q b,H.get q=some b→H'.get q=some b
theorem cw.refl{H:ab}(h:Fr H):cw H H:=⟨h,fun _ _ h=>h⟩
theorem cw.trans{H H' H'':ab}(h:cw H H')(h':cw H' H''):cw H H'':=⟨h'.fr,fun q b hq=>h'.old q b (h.old q b hq)⟩
theorem cw.cons{H:ab}(hF:Fr H)(d t:Nat)(b:bJ):cw H ((⟨d,t,H.gen d t,0⟩,some b) :: H) :=
 ⟨by simp(maxDischargeDepth:=12) [ab.get_put,aq,an,Fr.nil,aD,ah,ai,ae,af,ar,ao,ad, *],fun q c hq=>by rw[ab.oz,if_neg (o3 hF (by rw[hq];rfl) _ _ _)];exact hq⟩
theorem kj{f:FuncId}(hm:(env.mode f == 2)=true){dep:Nat}{H:ab}{r:Ref}{first args captured:List AV}{y:AV}{K:AV→ab→Prop}{m:Mk K}
 (h : ∃H',bR env dep (.fn f) (first++args++captured) H=some (y,H')∧cw H H') (hk : ∀H',cw H H'→K y H') :
 aN (bm env true (bj env) (bR env dep) H r (some (.fn (.func f) first captured)) args) K m:=by
 obtain⟨H',h1,h2⟩:=h
 refine pE (v:=y) (H:=H') ?_ (hk H' h2)
 rw[yO hm]
 exact h1
theorem fc{f:FuncId}{fn:Func}{c:Code}{dep:Nat}{args:List AV}{H:ab}{y:AV}(hm:env.mode f=2)(hal:env.allowed f=true)(hf:env.P.funcs[f]?=some fn)(hc:fn.body=some c)(hl:Nat.ble args.length fn.ntmps=true)
 (h:bW env fn (dep+1) [.code c] (qA 0 args) H fun x H1=>x=y∧cw H H1) (hsp:env.thrSpec f args H=none:=by rfl) : ∃H',bR env dep (.fn f) args H=some (y,H')∧cw H H':=by
 obtain⟨y',H',h1,rfl,h3⟩:=lL (Q:=fun x H1=>x=y∧cw H H1) hm hal hf hc hl h hsp
 exact⟨H',h1,h3⟩
structure uw (H:ab) (rh:Ref) (ops:List (bQ × AV)) (ents:List (eY × AV)):Prop where
 box : ∃xo vo rm,H.get rh=some ⟨2,[.agg [xo,.mp rm]],false,false⟩∧gY 17 (eJ ops) H xo vo∧H.get rm=some (bq (cz s9 ents))
theorem uw.grow{H H':ab}{rh:Ref}{ops:List (bQ × AV)}{ents:List (eY × AV)}(h:uw H rh ops ents)(g:cw H H'):uw H' rh ops ents:=by
 obtain⟨xo,vo,rm,h1,h2,h3⟩:=h.box
 refine⟨xo,vo,rm,g.old _ _ h1,?_,g.old _ _ h3⟩
 rcases h2 with h2 | ⟨r,c,fz,e1,e2,e3⟩
 ·exact .inl h2
 ·exact .inr ⟨r,c,fz,e1,g.old _ _ e2,e3⟩
def nI(ents:List (eY × AV))(i:eY):Bool:=match eL i ents with | some (.v (.bool b))=>b | _=>false
def o8(ents:List (eY × AV)):Prop :=∀p∈ents,p.2=aB true
theorem JR{ents:List (eY × AV)}(h:o8 ents)(i:eY):(eL i ents).getD (aB false)=aB (nI ents i):=by
 unfold nI
 induction ents with
 | nil=>rfl
 | cons p l ih =>
  unfold eL
  split
  ·rename_i hp;rw[h p List.mem_cons_self];rfl
  ·exact ih fun q hq=>h q (List.mem_cons_of_mem _ hq)
def uZ(ents:List (eY × AV))(o:bQ)(i:eY):Bool:=nI ents i&&Ck (Yd i) (Ke o)
theorem Iv{g:cV}{rm:Ref}{ents:List (eY × AV)}(hb:o8 ents)(hr:g rm=some (bq (cz s9 ents)))(kF:UInt8)(kE:UInt32)(k8:UInt8)(jd:Int):cQ env.P g 196 (some (.mp rm)) (some (.agg [a8 kF,aF kE,a8 k8,aI jd])) false=some (aB (nI ents (⟨⟨kF,kE,k8⟩,jd⟩:eY)),[]):=by
 have h:=tA IB F0 (t:=196) (et:=4) (by kernel_rfl) (z:=aB false) (by kernel_rfl) hr (⟨⟨kF,kE,k8⟩,jd⟩:eY) false
 rw[JR hb]at h
 exact h
section
variable(dep:Nat){H:ab}(hF:Fr H){rh:Ref}{ops:List (bQ × AV)}{ents:List (eY × AV)}(hh:uw H rh ops ents)(hb:o8 ents)
include hF hh hb
theorem HY(bg:UInt8)(aP:UInt8)(aO:UInt32)(aT:UInt8)(aW:Int)(ba:UInt8)(aZ:UInt32)(bc:UInt8)(bf:Int)(au:Int)(az:UInt8)(ay:UInt32)(ax:UInt8)(aw:Int)(aC:UInt8)(aA:UInt32)(kF:UInt8)(kE:UInt32)(k8:UInt8)(jd:Int){x:AV}{al:List Int}(hx:Sl 1 (rows al) x) : ∃H',bR env dep (.fn 154) [.ptr rh 0 0,.agg [a8 bg,a8 aP,aF aO,a8 aT,aI aW,a8 ba,aF aZ,a8 bc,aI bf,aI au,a8 az,aF ay,a8 ax,aI aw,a8 aC,aF aA,x],.agg [a8 kF,aF kE,a8 k8,aI jd]] H=some (aB (uZ ents (⟨bg,⟨aP,aO,aT⟩,aW,⟨⟨⟨ba,aZ,bc⟩,bf⟩,au⟩,⟨⟨az,ay,ax⟩,aw⟩,⟨aC,aA⟩,al⟩:bQ) (⟨⟨kF,kE,k8⟩,jd⟩:eY)),H')∧cw H H':=by
 refine fc (fn:=Tryz.f154) (c:=iC) (by kernel_rfl) (by kernel_rfl) (by kernel_rfl) (by kernel_rfl) (by kernel_rfl) ?_
 refine mB _ _ _ _ _ _ fun g=>?_
 obtain⟨xo,vo,rm,h1,h2,h3⟩:=hh.box
 have l1:(H.get rh).isSome=true:=by rw[h1];rfl
 have l3:(H.get rm).isSome=true:=by rw[h3];rfl
 have hlk:=fun(H':ab)(h:H'.get rm=some (bq (cz s9 ents)))=>Iv (g:=H'.get) hb h kF kE k8 jd
 have hso:=h2.r
 have hgr : ∀H',Fr H'→(∀q b,H.get q=some b→H'.get q=some b)→cw H H':=fun H' a b=>⟨a,b⟩
 have hfin : ∀b1 b2:bJ,cw H ((⟨dep+1,5,H.gen (dep+1) 5,0⟩,some b2) :: (⟨dep+1,4,H.gen (dep+1) 4,0⟩,some b1) :: H):=fun b1 b2=>⟨by simp(maxDischargeDepth:=12) [ab.get_put,aq,an,Fr.nil,aD,ah,ai,ae,af,ar,ao,ad, *],fun q c hq=>by
  have lq:(H.get q).isSome=true:=by rw[hq];rfl
  simp[ah hF lq,hq]⟩
 unfold uZ
 cases ht:nI ents (⟨⟨kF,kE,k8⟩,jd⟩:eY) with
 | false =>
  simp[ah,ai,ae,af,ad, *,eS,hx.r]
 | true =>
  simp[ah,ai,ae,af,ad, *,eS,hx.r]
  all_goals rfl
theorem LX(kF:UInt8)(kE:UInt32)(k8:UInt8)(jd:Int){q:Ref}(hq:H.get q=some ⟨1,[.ptr rh 0 0],false,false⟩) : ∃H',bR env dep (.fn 157) [.agg [a8 kF,aF kE,a8 k8,aI jd],.ptr q 0 0] H=some (aB (nI ents (⟨⟨kF,kE,k8⟩,jd⟩:eY)),H')∧cw H H':=by
 refine fc (fn:=Tryz.f157) (c:=gm) (by kernel_rfl) (by kernel_rfl) (by kernel_rfl) (by kernel_rfl) (by kernel_rfl) ?_
 refine kR _ _ _ _ _ fun g=>?_
 obtain⟨xo,vo,rm,h1,h2,h3⟩:=hh.box
 have l1:(H.get rh).isSome=true:=by rw[h1];rfl
 have l2:(H.get q).isSome=true:=by rw[hq];rfl
 have l3:(H.get rm).isSome=true:=by rw[h3];rfl
 have hlk:=fun(H':ab)(h:H'.get rm=some (bq (cz s9 ents)))=>Iv (g:=H'.get) hb h kF kE k8 jd
 have hso:=h2.r
 have hfin : ∀b1:bJ,cw H ((⟨dep+1,2,H.gen (dep+1) 2,0⟩,some b1) :: H):=fun b1=>cw.cons hF _ _ _
 simp[ah,ai,ae,af,ad, *,gw]
theorem MC(bg:UInt8)(aP:UInt8)(aO:UInt32)(aT:UInt8)(aW:Int)(ba:UInt8)(aZ:UInt32)(bc:UInt8)(bf:Int)(au:Int)(az:UInt8)(ay:UInt32)(ax:UInt8)(aw:Int)(aC:UInt8)(aA:UInt32)(kF:UInt8)(kE:UInt32)(k8:UInt8)(jd:Int){x:AV}{al:List Int}(hx:Sl 1 (rows al) x){q p:Ref}(hq:H.get q=some ⟨1,[.ptr rh 0 0],false,false⟩)(hp:H.get p=some ⟨17,[.agg [a8 bg,a8 aP,aF aO,a8 aT,aI aW,a8 ba,aF aZ,a8 bc,aI bf,aI au,a8 az,aF ay,a8 ax,aI aw,a8 aC,aF aA,x]],false,false⟩) :
 ∃H',bR env dep (.fn 167) [.agg [a8 kF,aF kE,a8 k8,aI jd],.ptr q 0 0,.ptr p 0 0] H=some (aB (!uZ ents (⟨bg,⟨aP,aO,aT⟩,aW,⟨⟨⟨ba,aZ,bc⟩,bf⟩,au⟩,⟨⟨az,ay,ax⟩,aw⟩,⟨aC,aA⟩,al⟩:bQ) (⟨⟨kF,kE,k8⟩,jd⟩:eY)),H')∧cw H H':=by
 refine fc (fn:=Tryz.f167) (c:=il) (by kernel_rfl) (by kernel_rfl) (by kernel_rfl) (by kernel_rfl) (by kernel_rfl) ?_
 refine lZ _ _ _ _ _ _ fun g=>?_
 have l2:(H.get q).isSome=true:=by rw[hq];rfl
 have l3:(H.get p).isSome=true:=by rw[hp];rfl
 have hg : ∀b1:bJ,cw H ((⟨dep+1,3,H.gen (dep+1) 3,0⟩,some b1) :: H):=fun b1=>cw.cons hF _ _ _
 have hs:=fun b1=>HY (dep+1) (hg b1).fr (hh.grow (hg b1)) hb bg aP aO aT aW ba aZ bc bf au az ay ax aw aC aA kF kE k8 jd hx
 simp[ah,ai,ae,af,ad, *,iq,hx.r]
 refine kj (by kernel_rfl) (hs _) fun H1 hG=>?_
 have hfin:=(hg _).trans hG
 simp[hfin]
end
def kA(l:List eY):List AV:=l.map s9
@[simp] theorem SW(l:List eY):(kA l).length=l.length:=by simp[kA]
def Hp(p:eY→Bool):List eY→Nat→Int
 | [],_ => -1
 | i :: l,k=>if p i then k else Hp p l (k+1)
theorem FZ(p:eY→Bool) : ∀(l:List eY)(k:Nat),decide (0≤Hp p l k)=l.any p
 | [],k=>rfl
 | i :: l,k=>by
  unfold Hp
  rw[List.any_cons]
  cases h:p i with
  | true=>simp
  | false=>simpa using FZ p l (k+1)
section
variable(dep:Nat){F:FuncId}(hm:(env.mode F == 2)=true){caps:List AV}{l:List eY}{x0:AV}(hx:Sl 4 (kA l) x0)(hl:l.length<100000){H0:ab}{p:eY→Bool}
include hm hx hl
theorem J6(hp : ∀i H,cw H0 H →∃H',bR env (dep+1) (.fn F) ([]++[s9 i]++caps) H=some (aB (p i),H')∧cw H H'){Q:AV→ab→Prop} : ∀(s:List eY)(k:Nat)(i:Int)(H:ab),l.drop k=s→k≤l.length→i=k→cw H0 H→(∀y H',y=aI (Hp p s k)→cw H0 H'→Q y H') →
 bW env Tryz.f166 (dep+1) bC [(8,aI i),(0,x0),(1,.fn (.func F) [] caps),(7,aI l.length)] H Q:=by
 intro s
 induction s with
 | nil =>
  rintro k i H hs hk rfl hG hQ
  obtain rfl:=drop_nil hs hk
  have hfin:=hQ _ H rfl hG
  refine dt _ _ _ _ _ _ _ fun g=>?_
  clear hp hQ
  simp[ah,ai,ae,af,ad, *,b8]
  all_goals exact hfin
 | cons a s ih =>
  rintro k i H hs hk rfl hG hQ
  obtain⟨hlt,hg,hs',hg'⟩:=drop_cons hs
  have e3:=IntWalk.i64_in ((k:Int)+1) (by omega)
  have hrd:eQ (kA l) k 0 4 true=some (s9 a):=by simp[kA,hg',s9]
  have hc:=hp a H hG
  have hih:=fun H' h1=>ih (k+1) ((k:Int)+1) H' hs' (by omega) (by simp) h1
  have hlt':(k:Int)<l.length:=by omega
  clear ih hp hs hs' hg hg'
  refine dt _ _ _ _ _ _ _ fun g=>?_
  simp[ah,ai,ae,af,ad, *,b8,hx.r,hx.idx]
  refine kj hm hc fun H1 hG1=>?_
  have hG2:=hG.trans hG1
  unfold Hp at hQ
  cases hpa:p a with
  | true =>
   rw[hpa]at hQ
   simp
   exact hQ _ _ (by simp) hG2
  | false =>
   rw[hpa]at hQ
   simp[e3]
   exact hih H1 hG2 (fun y H' ey h=>hQ y H' (by simpa using ey) h)
theorem zd{H:ab}(hF:Fr H)(hp : ∀i H',cw H H' →∃H'',bR env (dep+2) (.fn F) ([]++[s9 i]++caps) H'=some (aB (p i),H'')∧cw H' H'') :
 ∃H',bR env dep (.fn 156) [x0,.fn (.func F) [] caps] H=some (aB (l.any p),H')∧cw H H':=by
 have hi : ∃H',bR env (dep+1) (.fn 166) ([]++[x0,.fn (.func F) [] caps]++[]) H=some (aI (Hp p l 0),H')∧cw H H':=by
  refine fc (fn:=Tryz.f166) (c:=cf) (by kernel_rfl) (by kernel_rfl) (by kernel_rfl) (by kernel_rfl) (by kernel_rfl) ?_
  refine fH _ _ _ _ _ fun g=>?_
  have hfin:=J6 (dep+1) hm hx hl (p:=p) hp (Q:=fun x H1=>x=aI (Hp p l 0)∧cw H H1) l 0 0 H rfl (by omega) rfl (cw.refl hF) (fun y H' e h=>⟨e,h⟩)
  clear hp
  simp[ah,ai,ae,af,ad, *,dK,hx.r]
  all_goals exact hfin
 refine fc (fn:=Tryz.f156) (c:=dn) (by kernel_rfl) (by kernel_rfl) (by kernel_rfl) (by kernel_rfl) (by kernel_rfl) ?_
 refine ff _ _ _ _ _ fun g=>?_
 unfold dp
 refine kj (by kernel_rfl) hi fun H1 hG=>?_
 have:=FZ p l 0
 simp[hG,←this]
end
end Go.Proofs.YtdbiffjdomokfaaGreat
