/-
  What a history tells of an operation: what its parts answer. No statement of a seat is proved here.
-/
import Derived.Test.YtmkmimgokagimaaGreatChFns2
import Derived.Test.YtmkmimgokagimaaGreatRecFns
import Derived.Test.YtmkmimgokagimaaGreatMChMath
import Derived.Test.YtmkmimgokagimaaGreatLeVc8
set_option linter.unusedVariables false
set_option linter.unusedSimpArgs false
set_option linter.unusedSectionVars false
set_option linter.unnecessarySimpa false
set_option maxRecDepth 100000
namespace Go.Proofs.YtmkmimgokagimaaGreat
open Go.Ab
attribute [local simp] bj aL aF bg bf keep thr bx aT bc da cZ cJ bD aD bM List.take_of_length_le
def hanV(h:Han):Value := .agg #[.int .u8 h.lv.toNat,.int .u32 h.cats.toNat,.int .u8 h.num.toNat]
def iddV(i:Idd):Value := .agg #[.int .u8 i.h.lv.toNat,.int .u32 i.h.cats.toNat,.int .u8 i.h.num.toNat,.int .i64 i.n]
def labV(v:Lab):Value := .agg #[.int .u8 v.lv.toNat,.int .u32 v.cats.toNat]
def hanK(h:Han):AV := .agg [a8 h.lv,a32 h.cats,a8 h.num]
def iddK(i:Idd):AV := .agg [a8 i.h.lv,a32 i.h.cats,a8 i.h.num,aI i.n]
def labK(v:Lab):AV := .agg [a8 v.lv,a32 v.cats]
theorem CH(h:Han):fI (hanK h)=some (hanV h):=rfl
theorem Gs(i:Idd):fI (iddK i)=some (iddV i):=rfl
theorem CE(v:Lab):fI (labK v)=some (labV v):=rfl
theorem PQ:(fun(e:Bool)(a b c:Int)(n:Int)=>bn env.P (Instr.checkKey e 10000 33 (.agg #[.int .u8 a,.int .u32 b,.int .u8 c,.int .i64 n])))=fun _ _ _ _ _=>some ():=by kernel_rfl
theorem PR:(fun(e:Bool)(a b c:Int)=>bn env.P (Instr.checkKey e 10000 31 (.agg #[.int .u8 a,.int .u32 b,.int .u8 c])))=fun _ _ _ _=>some ():=by kernel_rfl
theorem PO:(fun(e:Bool)(a b:Int)=>bn env.P (Instr.checkKey e 10000 29 (.agg #[.int .u8 a,.int .u32 b])))=fun _ _ _=>some ():=by kernel_rfl
theorem ER(d:TypeDesc)(u v:Array Value):Instr.sameNow d (.agg u) (.agg v)=none:=by
 unfold Instr.sameNow
 cases d<;>rfl
theorem PI{t:TypeId}{xs ys:List AV}{us vs:List Value}{b:Bool}(hok:eqOk env.P 8 t=true)(h:eqA env.P 8 t xs ys=some b)(hu:unVs xs=some us)(hv:unVs ys=some vs)(hl:xs.length=env.P.cellsOf t)(hl':ys.length=env.P.cellsOf t)(ht:tagg env.P t=some true) :
 bn env.P (Op.equal t (.agg us.toArray) (.agg vs.toArray))=some b:=by
 obtain⟨u,v,h1,h2,h3⟩:=NO 8 9992 t xs ys us vs b hok h hu hv hl hl'
 unfold Ab.uL at h1 h2
 rw[ht]at h1 h2
 dsimp only at h1 h2
 cases h1
 cases h2
 exact h3
theorem JR:KeyT env.P 33 iddV where
 chk:=fun e a=>congrFun (congrFun (congrFun (congrFun (congrFun PQ e) _) _) _) _
 eq:=fun a b=>by
  have h:=PI (t:=33) (xs:=[a8 a.h.lv,a32 a.h.cats,a8 a.h.num,aI a.n]) (ys:=[a8 b.h.lv,a32 b.h.cats,a8 b.h.num,aI b.n]) (b:=decide (a=b)) (by kernel_rfl)
   (by obtain⟨⟨a1,a2,a3⟩,a4⟩:=a;obtain⟨⟨b1,b2,b3⟩,b4⟩:=b;simp[eqA,eqFs,and_assoc,Bool.and_assoc]) rfl rfl (by kernel_rfl) (by kernel_rfl) (by kernel_rfl)
  exact h
 now:=fun d _ a b=>ER d _ _
 und:=by kernel_rfl
 bits:=fun a=>by simp[iddV,Instr.sameBits]
theorem E3:KeyT env.P 31 hanV where
 chk:=fun e a=>congrFun (congrFun (congrFun (congrFun PR e) _) _) _
 eq:=fun a b=>by
  have h:=PI (t:=31) (xs:=[a8 a.lv,a32 a.cats,a8 a.num]) (ys:=[a8 b.lv,a32 b.cats,a8 b.num]) (b:=decide (a=b)) (by kernel_rfl)
   (by obtain⟨a1,a2,a3⟩:=a;obtain⟨b1,b2,b3⟩:=b;simp[eqA,eqFs,and_assoc,Bool.and_assoc]) rfl rfl (by kernel_rfl) (by kernel_rfl) (by kernel_rfl)
  exact h
 now:=fun d _ a b=>ER d _ _
 und:=by kernel_rfl
 bits:=fun a=>by simp[hanV,Instr.sameBits]
theorem E2:KeyT env.P 29 labV where
 chk:=fun e a=>congrFun (congrFun (congrFun PO e) _) _
 eq:=fun a b=>by
  have h:=PI (t:=29) (xs:=[a8 a.lv,a32 a.cats]) (ys:=[a8 b.lv,a32 b.cats]) (b:=decide (a=b)) (by kernel_rfl)
   (by obtain⟨a1,a2⟩:=a;obtain⟨b1,b2⟩:=b;simp[eqA,eqFs,and_assoc,Bool.and_assoc]) rfl rfl (by kernel_rfl) (by kernel_rfl) (by kernel_rfl)
  exact h
 now:=fun d _ a b=>ER d _ _
 und:=by kernel_rfl
 bits:=fun a=>by simp[labV,Instr.sameBits]
end Go.Proofs.YtmkmimgokagimaaGreat
namespace Go.Proofs.YtmkmimgokagimaaGreat
open Go.Ab
attribute [local simp] bj aL aF bg bf keep thr bx aT bc da cZ cJ bD aD bM List.take_of_length_le
structure Grow (H H':Heap):Prop where
 fr:Fr H'
 old : ∀q b,H.get q=some b→H'.get q=some b
theorem Grow.refl{H:Heap}(h:Fr H):Grow H H:=⟨h,fun _ _ h=>h⟩
theorem Grow.trans{H H' H'':Heap}(h:Grow H H')(h':Grow H' H''):Grow H H'':=⟨h'.fr,fun q b hq=>h'.old q b (h.old q b hq)⟩
theorem Grow.cons{H:Heap}(hF:Fr H)(d t:Nat)(b:Blk):Grow H ((⟨d,t,H.gen d t,0⟩,some b) :: H) :=
 ⟨by simp(maxDischargeDepth:=12) [Heap.an,au,ak,Fr.nil,az,af,ah,ad,ae,ar,ao,ab, *],fun q c hq=>by rw[Heap.nT,if_neg (mK hF (by rw[hq];rfl) _ _ _)];exact hq⟩
theorem jm{f:FuncId}(hm:(env.mode f == 2)=true){dep:Nat}{H:Heap}{r:Ref}{first args captured:List AV}{y:AV}{K:AV→Heap→Prop}{m:Mk K}
 (h : ∃H',limt env dep (.fn f) (first++args++captured) H=some (y,H')∧Grow H H') (hk : ∀H',Grow H H'→K y H') :
 doW (aG env true (limf env) (limt env dep) H r (some (.fn (.func f) first captured)) args) K m:=by
 obtain⟨H',h1,h2⟩:=h
 refine DY (v:=y) (H:=H') ?_ (hk H' h2)
 rw[Aj hm]
 exact h1
theorem dt{f:FuncId}{fn:Func}{c:Code}{dep:Nat}{args:List AV}{H:Heap}{y:AV}(hm:env.mode f=2)(hal:env.allowed f=true)(hf:env.P.funcs[f]?=some fn)(hc:fn.body=some c)(hl:Nat.ble args.length fn.ntmps=true)
 (h:GoL env fn (dep+1) [.code c] (q0 0 args) H fun x H1=>x=y∧Grow H H1) : ∃H',limt env dep (.fn f) args H=some (y,H')∧Grow H H':=by
 obtain⟨y',H',h1,rfl,h3⟩:=iw (Q:=fun x H1=>x=y∧Grow H H1) hm hal hf hc hl h
 exact⟨H',h1,h3⟩
structure HistAt (H:Heap) (rh:Ref) (ops:List (Opn × AV)) (ents:List (Idd × AV)):Prop where
 box : ∃xo vo rm,H.get rh=some ⟨2,[.agg [xo,.mp rm]],false,false⟩∧jQ 17 (fZ ops) H xo vo∧H.get rm=some (bm (cX iddK ents))
theorem HistAt.grow{H H':Heap}{rh:Ref}{ops:List (Opn × AV)}{ents:List (Idd × AV)}(h:HistAt H rh ops ents)(g:Grow H H'):HistAt H' rh ops ents:=by
 obtain⟨xo,vo,rm,h1,h2,h3⟩:=h.box
 refine⟨xo,vo,rm,g.old _ _ h1,?_,g.old _ _ h3⟩
 rcases h2 with h2 | ⟨r,c,fz,e1,e2,e3⟩
 ·exact .inl h2
 ·exact .inr ⟨r,c,fz,e1,g.old _ _ e2,e3⟩
def oW(ents:List (Idd × AV))(i:Idd):Bool:=match bE i ents with | some (.v (.bool b))=>b | _=>false
def qx(ents:List (Idd × AV)):Prop :=∀p∈ents,p.2=aB true
theorem JD{ents:List (Idd × AV)}(h:qx ents)(i:Idd):(bE i ents).getD (aB false)=aB (oW ents i):=by
 unfold oW
 induction ents with
 | nil=>rfl
 | cons p l ih =>
  unfold bE
  split
  ·rename_i hp;rw[h p List.mem_cons_self];rfl
  ·exact ih fun q hq=>h q (List.mem_cons_of_mem _ hq)
def AL(ents:List (Idd × AV))(o:Opn)(i:Idd):Bool:=oW ents i&&leqL (ofI i) (byL o)
theorem JE{g:Get}{rm:Ref}{ents:List (Idd × AV)}(hb:qx ents)(hr:g rm=some (bm (cX iddK ents)))(b_1:UInt8)(b_2:UInt32)(b_3:UInt8)(b_4:Int):cE env.P g 264 (some (.mp rm)) (some (.agg [a8 b_1,a32 b_2,a8 b_3,aI b_4])) false=some (aB (oW ents (⟨⟨b_1,b_2,b_3⟩,b_4⟩:Idd)),[]):=by
 have h:=ug JR Gs (t:=264) (et:=4) (by kernel_rfl) (z:=aB false) (by kernel_rfl) hr (⟨⟨b_1,b_2,b_3⟩,b_4⟩:Idd) false
 rw[JD hb]at h
 exact h
section
variable(dep:Nat){H:Heap}(hF:Fr H){rh:Ref}{ops:List (Opn × AV)}{ents:List (Idd × AV)}(hh:HistAt H rh ops ents)(hb:qx ents)
include hF hh hb
theorem IA(a_1:UInt8)(a_2:UInt8)(a_3:UInt32)(a_4:UInt8)(a_5:Int)(a_6:UInt8)(a_7:UInt32)(a_8:UInt8)(a_9:Int)(a_10:Int)(a_11:UInt8)(a_12:UInt32)(a_13:UInt8)(a_14:Int)(a_15:UInt8)(a_16:UInt32)(b_1:UInt8)(b_2:UInt32)(b_3:UInt8)(b_4:Int){x:AV}{al:List Int}(hx:Sl 1 (rows al) x) : ∃H',limt env dep (.fn 230) [.ptr rh 0 0,.agg [a8 a_1,a8 a_2,a32 a_3,a8 a_4,aI a_5,a8 a_6,a32 a_7,a8 a_8,aI a_9,aI a_10,a8 a_11,a32 a_12,a8 a_13,aI a_14,a8 a_15,a32 a_16,x],.agg [a8 b_1,a32 b_2,a8 b_3,aI b_4]] H=some (aB (AL ents (⟨a_1,⟨a_2,a_3,a_4⟩,a_5,⟨⟨⟨a_6,a_7,a_8⟩,a_9⟩,a_10⟩,⟨⟨a_11,a_12,a_13⟩,a_14⟩,⟨a_15,a_16⟩,al⟩:Opn) (⟨⟨b_1,b_2,b_3⟩,b_4⟩:Idd)),H')∧Grow H H':=by
 refine dt (fn:=Tryz.f230) (c:=fR) (by kernel_rfl) (by kernel_rfl) (by kernel_rfl) (by kernel_rfl) (by kernel_rfl) ?_
 refine kP _ _ _ _ _ _ fun g=>?_
 obtain⟨xo,vo,rm,h1,h2,h3⟩:=hh.box
 have l1:(H.get rh).isSome=true:=by rw[h1];rfl
 have l3:(H.get rm).isSome=true:=by rw[h3];rfl
 have hlk:=fun(H':Heap)(h:H'.get rm=some (bm (cX iddK ents)))=>JE (g:=H'.get) hb h b_1 b_2 b_3 b_4
 have hso:=h2.r
 have hgr : ∀H',Fr H'→(∀q b,H.get q=some b→H'.get q=some b)→Grow H H':=fun H' a b=>⟨a,b⟩
 have hfin : ∀b1 b2:Blk,Grow H ((⟨dep+1,5,H.gen (dep+1) 5,0⟩,some b2) :: (⟨dep+1,4,H.gen (dep+1) 4,0⟩,some b1) :: H):=fun b1 b2=>⟨by simp(maxDischargeDepth:=12) [Heap.an,au,ak,Fr.nil,az,af,ah,ad,ae,ar,ao,ab, *],fun q c hq=>by
  have lq:(H.get q).isSome=true:=by rw[hq];rfl
  simp[af hF lq,hq]⟩
 unfold AL
 cases ht:oW ents (⟨⟨b_1,b_2,b_3⟩,b_4⟩:Idd) with
 | false =>
  simp[af,ah,ad,ae,ab, *,dH,hx.r]
 | true =>
  simp[af,ah,ad,ae,ab, *,dH,hx.r]
  all_goals rfl
theorem L9(b_1:UInt8)(b_2:UInt32)(b_3:UInt8)(b_4:Int){q:Ref}(hq:H.get q=some ⟨1,[.ptr rh 0 0],false,false⟩) : ∃H',limt env dep (.fn 233) [.agg [a8 b_1,a32 b_2,a8 b_3,aI b_4],.ptr q 0 0] H=some (aB (oW ents (⟨⟨b_1,b_2,b_3⟩,b_4⟩:Idd)),H')∧Grow H H':=by
 refine dt (fn:=Tryz.f233) (c:=eT) (by kernel_rfl) (by kernel_rfl) (by kernel_rfl) (by kernel_rfl) (by kernel_rfl) ?_
 refine jr _ _ _ _ _ fun g=>?_
 obtain⟨xo,vo,rm,h1,h2,h3⟩:=hh.box
 have l1:(H.get rh).isSome=true:=by rw[h1];rfl
 have l2:(H.get q).isSome=true:=by rw[hq];rfl
 have l3:(H.get rm).isSome=true:=by rw[h3];rfl
 have hlk:=fun(H':Heap)(h:H'.get rm=some (bm (cX iddK ents)))=>JE (g:=H'.get) hb h b_1 b_2 b_3 b_4
 have hso:=h2.r
 have hfin : ∀b1:Blk,Grow H ((⟨dep+1,2,H.gen (dep+1) 2,0⟩,some b1) :: H):=fun b1=>Grow.cons hF _ _ _
 simp[af,ah,ad,ae,ab, *,eW]
theorem MB(a_1:UInt8)(a_2:UInt8)(a_3:UInt32)(a_4:UInt8)(a_5:Int)(a_6:UInt8)(a_7:UInt32)(a_8:UInt8)(a_9:Int)(a_10:Int)(a_11:UInt8)(a_12:UInt32)(a_13:UInt8)(a_14:Int)(a_15:UInt8)(a_16:UInt32)(b_1:UInt8)(b_2:UInt32)(b_3:UInt8)(b_4:Int){x:AV}{al:List Int}(hx:Sl 1 (rows al) x){q p:Ref}(hq:H.get q=some ⟨1,[.ptr rh 0 0],false,false⟩)(hp:H.get p=some ⟨17,[.agg [a8 a_1,a8 a_2,a32 a_3,a8 a_4,aI a_5,a8 a_6,a32 a_7,a8 a_8,aI a_9,aI a_10,a8 a_11,a32 a_12,a8 a_13,aI a_14,a8 a_15,a32 a_16,x]],false,false⟩) :
 ∃H',limt env dep (.fn 242) [.agg [a8 b_1,a32 b_2,a8 b_3,aI b_4],.ptr q 0 0,.ptr p 0 0] H=some (aB (!AL ents (⟨a_1,⟨a_2,a_3,a_4⟩,a_5,⟨⟨⟨a_6,a_7,a_8⟩,a_9⟩,a_10⟩,⟨⟨a_11,a_12,a_13⟩,a_14⟩,⟨a_15,a_16⟩,al⟩:Opn) (⟨⟨b_1,b_2,b_3⟩,b_4⟩:Idd)),H')∧Grow H H':=by
 refine dt (fn:=Tryz.f242) (c:=fF) (by kernel_rfl) (by kernel_rfl) (by kernel_rfl) (by kernel_rfl) (by kernel_rfl) ?_
 refine kF _ _ _ _ _ _ fun g=>?_
 have l2:(H.get q).isSome=true:=by rw[hq];rfl
 have l3:(H.get p).isSome=true:=by rw[hp];rfl
 have hg : ∀b1:Blk,Grow H ((⟨dep+1,3,H.gen (dep+1) 3,0⟩,some b1) :: H):=fun b1=>Grow.cons hF _ _ _
 have hs:=fun b1=>IA (dep+1) (hg b1).fr (hh.grow (hg b1)) hb a_1 a_2 a_3 a_4 a_5 a_6 a_7 a_8 a_9 a_10 a_11 a_12 a_13 a_14 a_15 a_16 b_1 b_2 b_3 b_4 hx
 simp[af,ah,ad,ae,ab, *,fH,hx.r]
 refine jm (by kernel_rfl) (hs _) fun H1 hG=>?_
 have hfin:=(hg _).trans hG
 simp[hfin]
end
def mV(l:List Idd):List AV:=l.map iddK
@[simp] theorem SU(l:List Idd):(mV l).length=l.length:=by simp[mV]
def idxP(p:Idd→Bool):List Idd→Nat→Int
 | [],_ => -1
 | i :: l,k=>if p i then k else idxP p l (k+1)
theorem Gr(p:Idd→Bool) : ∀(l:List Idd)(k:Nat),decide (0≤idxP p l k)=l.any p
 | [],k=>rfl
 | i :: l,k=>by
  unfold idxP
  rw[List.any_cons]
  cases h:p i with
  | true=>simp
  | false=>simpa using Gr p l (k+1)
section
variable(dep:Nat){F:FuncId}(hm:(env.mode F == 2)=true){caps:List AV}{l:List Idd}{x0:AV}(hx:Sl 4 (mV l) x0)(hl:l.length<100000){H0:Heap}{p:Idd→Bool}
include hm hx hl
theorem J9(hp : ∀i H,Grow H0 H →∃H',limt env (dep+1) (.fn F) ([]++[iddK i]++caps) H=some (aB (p i),H')∧Grow H H'){Q:AV→Heap→Prop} : ∀(s:List Idd)(k:Nat)(i:Int)(H:Heap),l.drop k=s→k≤l.length→i=k→Grow H0 H→(∀y H',y=aI (idxP p s k)→Grow H0 H'→Q y H') →
 GoL env Tryz.f241 (dep+1) aV [(8,aI i),(0,x0),(1,.fn (.func F) [] caps),(7,aI l.length)] H Q:=by
 intro s
 induction s with
 | nil =>
  rintro k i H hs hk rfl hG hQ
  obtain rfl:=drop_nil hs hk
  have hfin:=hQ _ H rfl hG
  refine cg _ _ _ _ _ _ _ fun g=>?_
  clear hp hQ
  simp[af,ah,ad,ae,ab, *,bC]
  all_goals exact hfin
 | cons a s ih =>
  rintro k i H hs hk rfl hG hQ
  obtain⟨hlt,hg,hs',hg'⟩:=drop_cons hs
  have e3:=IntWalk.i64_in ((k:Int)+1) (by omega)
  have hrd:fD (mV l) k 0 4 true=some (iddK a):=by simp[mV,hg',iddK]
  have hc:=hp a H hG
  have hih:=fun H' h1=>ih (k+1) ((k:Int)+1) H' hs' (by omega) (by simp) h1
  have hlt':(k:Int)<l.length:=by omega
  clear ih hp hs hs' hg hg'
  refine cg _ _ _ _ _ _ _ fun g=>?_
  simp[af,ah,ad,ae,ab, *,bC,hx.r,hx.idx]
  refine jm hm hc fun H1 hG1=>?_
  have hG2:=hG.trans hG1
  unfold idxP at hQ
  cases hpa:p a with
  | true =>
   rw[hpa]at hQ
   simp
   exact hQ _ _ (by simp) hG2
  | false =>
   rw[hpa]at hQ
   simp[e3]
   exact hih H1 hG2 (fun y H' ey h=>hQ y H' (by simpa using ey) h)
theorem Ai{H:Heap}(hF:Fr H)(hp : ∀i H',Grow H H' →∃H'',limt env (dep+2) (.fn F) ([]++[iddK i]++caps) H'=some (aB (p i),H'')∧Grow H' H'') :
 ∃H',limt env dep (.fn 232) [x0,.fn (.func F) [] caps] H=some (aB (l.any p),H')∧Grow H H':=by
 have hi : ∃H',limt env (dep+1) (.fn 241) ([]++[x0,.fn (.func F) [] caps]++[]) H=some (aI (idxP p l 0),H')∧Grow H H':=by
  refine dt (fn:=Tryz.f241) (c:=bF) (by kernel_rfl) (by kernel_rfl) (by kernel_rfl) (by kernel_rfl) (by kernel_rfl) ?_
  refine ef _ _ _ _ _ fun g=>?_
  have hfin:=J9 (dep+1) hm hx hl (p:=p) hp (Q:=fun x H1=>x=aI (idxP p l 0)∧Grow H H1) l 0 0 H rfl (by omega) rfl (Grow.refl hF) (fun y H' e h=>⟨e,h⟩)
  clear hp
  simp[af,ah,ad,ae,ab, *,cx,hx.r]
  all_goals exact hfin
 refine dt (fn:=Tryz.f232) (c:=cd) (by kernel_rfl) (by kernel_rfl) (by kernel_rfl) (by kernel_rfl) (by kernel_rfl) ?_
 refine dI _ _ _ _ _ fun g=>?_
 unfold cf
 refine jm (by kernel_rfl) hi fun H1 hG=>?_
 have:=Gr p l 0
 simp[hG,←this]
end
end Go.Proofs.YtmkmimgokagimaaGreat
