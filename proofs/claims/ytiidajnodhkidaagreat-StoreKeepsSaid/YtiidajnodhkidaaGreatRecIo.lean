/-
  Records: their blocks, and what blocks tell. No statement of a seat is proved here.
-/
import Derived.Test.YtiidajnodhkidaaGreatRecFns
import Derived.Test.YtiidajnodhkidaaGreatRuGet
import Derived.Test.YtiidajnodhkidaaGreatOpGet
import Derived.Test.YtiidajnodhkidaaGreatOpRead2
import Derived.Test.YtiidajnodhkidaaGreatStVc6
set_option linter.unusedVariables false
set_option linter.unusedSimpArgs false
set_option linter.unusedSectionVars false
set_option linter.unnecessarySimpa false
set_option maxRecDepth 100000
namespace Go.Proofs.YtiidajnodhkidaaGreat
open Go.Ab
attribute [local simp] ct bK bO bN keep thr cC bD bP eE eD cN cB aV dk List.take_of_length_le
attribute [local simp] DI bsO eI
@[simp] theorem OO(n:Int)(h0:0≤n):limf env 109 [aI n,aI 4]=some (.isl 1 (by8 (be 4 n)) none):=by
 refine aH (fn:=Tryz.f109) (c:=jR) rfl (by kernel_rfl) (by kernel_rfl) (by kernel_rfl) (by kernel_rfl) ?_;refine pY _ _ _ _ fun g=>?_
 have w5:IntKind.i64.wrap (-1) = -1:=rfl
 have w4:IntKind.i64.wrap 0=0:=rfl
 simp[af,ah,ad,ae,aa, *,mA]
 refine dy _ _ _ _ _ fun g=>?_
 simp[af,ah,ad,ae,aa, *,dv,cS,cO]
 refine dy _ _ _ _ _ fun g=>?_
 simp[af,ah,ad,ae,aa, *,dv,cS,cO]
 refine dy _ _ _ _ _ fun g=>?_
 simp[af,ah,ad,ae,aa, *,dv,cS,cO]
 refine dy _ _ _ _ _ fun g=>?_
 simp[af,ah,ad,ae,aa, *,dv,cS,cO]
 refine dy _ _ _ _ _ fun g=>?_
 simp[af,ah,ad,ae,aa, *,dv,be_4,by8]
@[simp] theorem OP(n:Int)(h0:0≤n):limf env 109 [aI n,aI 3]=some (.isl 1 (by8 (be 3 n)) none):=by
 refine aH (fn:=Tryz.f109) (c:=jR) rfl (by kernel_rfl) (by kernel_rfl) (by kernel_rfl) (by kernel_rfl) ?_;refine pY _ _ _ _ fun g=>?_
 have w5:IntKind.i64.wrap (-1) = -1:=rfl
 have w4:IntKind.i64.wrap 0=0:=rfl
 simp[af,ah,ad,ae,aa, *,mA]
 refine dy _ _ _ _ _ fun g=>?_
 simp[af,ah,ad,ae,aa, *,dv,cS,cO]
 refine dy _ _ _ _ _ fun g=>?_
 simp[af,ah,ad,ae,aa, *,dv,cS,cO]
 refine dy _ _ _ _ _ fun g=>?_
 simp[af,ah,ad,ae,aa, *,dv,cS,cO]
 refine dy _ _ _ _ _ fun g=>?_
 simp[af,ah,ad,ae,aa, *,dv,be_3,by8]
theorem GX{x5:AV}{Q:AV→Heap→Prop}{l:List UInt8}(hx:Sl 1 (by8 l) x5)(hl:l.length≤7) : ∀(s:List UInt8)(k:Nat)(i a:Int)(H:Heap),l.drop k=s→k≤l.length→i=k→0≤a→a<256 ^ k →
 (∀y H',y=aI (valF a s)→Q y H') →
 GoL env Tryz.f118 0 jP [(7,aI i),(2,aI a),(5,x5),(6,aI l.length)] H Q:=by
 intro s
 induction s with
 | nil =>
  rintro k i a H hs hk rfl h0 h1 hQ
  obtain rfl:=drop_nil hs hk
  refine pX _ _ _ _ _ _ fun g=>?_
  simp[af,ah,ad,ae,aa, *,mz]
  exact hQ _ _ rfl
 | cons b s ih =>
  rintro k i a H hs hk rfl h0 h1 hQ
  obtain⟨hlt,hg,hs',hg'⟩:=drop_cons hs
  refine pX _ _ _ _ _ _ fun g=>?_
  have hb:=b.toNat_lt
  have h2:=qK (k:=k) 6 (by omega)
  have e:=Bc h0 (by omega) b
  have e2:=IntWalk.i64_in (a * 256) (by omega)
  have e3:=IntWalk.i64_in ((k:Int)+1) (by omega)
  simp[af,ah,ad,ae,aa, *,mz,rA,hx.idx]
  exact ih (k+1) _ _ _ hs' (by omega) (by simp) (by omega) (by rw[Int.pow_succ];omega) hQ
@[simp] theorem Ee{x:AV}{l:List UInt8}(hx:Sl 1 (by8 l) x)(hl:l.length≤7):limf env 118 [x]=some (aI (val l)):=by
 refine aH (fn:=Tryz.f118) (c:=oC) rfl (by kernel_rfl) (by kernel_rfl) (by kernel_rfl) (by kernel_rfl) ?_;refine yN _ _ _ fun g=>?_
 have h:=hx.len
 simp[af,ah,ad,ae,aa, *,sF]
 exact GX hx hl l 0 _ _ _ rfl (by omega) rfl (by omega) (by simp) (fun y H' e=>by simp[e,val])
def kZ(st nu ix of:Int):Bool:=decide (1≤st)&&decide (st<2147483648)&&decide (1≤nu)&&decide (nu<16777216)&&decide (1≤of)&&decide (of≤4)&&decide (0≤ix)&&decide (ix<of)
@[simp] theorem Vc(st nu ix of:Int):limf env 106 [.agg [aI st,aI nu,aI ix,aI of]]=some (aB (kZ st nu ix of)):=by
 refine aH (fn:=Tryz.f106) (c:=ur) rfl (by kernel_rfl) (by kernel_rfl) (by kernel_rfl) (by kernel_rfl) ?_;refine Az _ _ _ fun g=>?_
 simp[af,ah,ad,ae,aa, *,uF]
 repeat' ((first | refine td (fun h=>?_) (fun h=>?_) | refine nr (fun h=>?_) (fun h=>?_) | refine nv (fun h=>?_) (fun h=>?_) | refine nn (fun h=>?_) (fun h=>?_) | refine np (fun h=>?_) (fun h=>?_))<;>(try simp only[decide_eq_true_eq,decide_eq_false_iff_not,Bool.not_eq_true',Bool.not_eq_false',Bool.and_eq_true,Bool.or_eq_true]at h)<;>(try simp[af,ah,ad,ae,aa, *,kZ]))
 all_goals (try (simp[kZ];omega))
structure Hd where
 st:Int
 nu:Int
 ix:Int
 of:Int
deriving DecidableEq
def Hd.val(h:Hd):AV := .agg [aI h.st,aI h.nu,aI h.ix,aI h.of]
def hdOf(b:List UInt8):Hd:=⟨Ab.val (b.take 4),Ab.val ((b.drop 4).take 3),(b.getD 7 0).toNat,(b.getD 8 0).toNat⟩
def kD(b:List UInt8):Bool:=decide (b.length=128)&&kZ (hdOf b).st (hdOf b).nu (hdOf b).ix (hdOf b).of
theorem xl{x:AV}{b:List UInt8}(hx:Sl 1 (by8 b) x):limf env 76 [x]=some (if kD b then .tup [(hdOf b).val,aI 0] else .tup [(⟨0,0,0,0⟩:Hd).val,aI 8]):=by
 refine aH (fn:=Tryz.f76) (c:=sj) rfl (by kernel_rfl) (by kernel_rfl) (by kernel_rfl) (by kernel_rfl) ?_;refine yP _ _ _ fun g=>?_
 have hr:=hx.r
 unfold kD
 by_cases hl:b.length=128
 ·have hli:(b.length:Int)=128:=by omega
  obtain⟨cp,rfl,hcp⟩:=qE hx (by simp;omega)
  rw[nB]at hcp
  have r4:=fun c=>Ee (x := .isl 1 (by8 (b.take 4)) c) (l:=b.take 4)
  have r3:=fun c=>Ee (x := .isl 1 (by8 ((b.drop 4).take 3)) c) (l:=(b.drop 4).take 3)
  have r4:=r4 cp (by rw[Od];cases cp<;>simp at hcp ⊢ <;> omega) (by simp;omega)
  have r3:=r3 (cp.map (· - 4)) (by rw[Od];cases cp<;>simp at hcp ⊢ <;> omega) (by simp;omega)
  have e7:b.getD 7 0=b[7]'(by omega):=by rw[List.getD_eq_getElem?_getD,List.getElem?_eq_getElem (by omega)];rfl
  have e8:b.getD 8 0=b[8]'(by omega):=by rw[List.getD_eq_getElem?_getD,List.getElem?_eq_getElem (by omega)];rfl
  unfold Hd.val hdOf
  rw[e7,e8]
  clear e7 e8
  have hc4:(4:Int)≤cp.getD b.length:=by omega
  cases hh:kZ (Ab.val (b.take 4)) (Ab.val ((b.drop 4).take 3)) (b[7]'(by omega)).toNat (b[8]'(by omega)).toNat with
  | false=>simp[af,ah,ad,ae,aa, *,lE,BX,wV]
  | true=>simp[af,ah,ad,ae,aa, *,lE,BX,wV]
 ·have hli : ¬(b.length:Int)=128:=by omega
  simp[af,ah,ad,ae,aa, *,lE,Hd.val]
theorem Fv{P:Program}{t t':TypeId}(hT:elOk P t=true)(hA:isInt P t'=true)(hz:(gq P t).cells.all AV.one=true){H:Heap}{r q:Ref}{es:List AV}{fz:Bool}(hq:H.get q=some ⟨elZ P t,es,true,fz⟩)(n:Nat)(h1:(n:Int)≤cN)(hb:(es.length+n) * elBy P t≤cN) :
 cE P true H r (some t) (some t') (.osl q 0 es.length none) (aI n)=if n=0 then some (.osl q 0 es.length none,H) else some (.osl ⟨q.d,q.t,H.gen q.d q.t,0⟩ 0 (es.length+n) none,(⟨q.d,q.t,H.gen q.d q.t,0⟩,some ⟨elZ P t,es++List.replicate n (gq P t),true,fz⟩) :: H.put q none):=by
 unfold elOk at hT
 obtain⟨e,zz,e1,e2,e3,e4,e5,e6,e7,e8⟩:=gl hT
 have ez:gq P t=zz:=by unfold gq;rw[e1,Option.bind_some,e4];rfl
 rw[ez]at hz ⊢
 have hun:(P.underlying t').isNone=false:=by
  unfold isInt at hA
  cases h:P.underlying t' with
  | none=>rw[h]at hA;cases hA
  | some d=>rfl
 have hc : ¬((P.underlying t').isNone=true∨isInt P t'≠isNum (aI n)):=by rw[hun,hA];simp[isNum]
 have hd : ¬(elZ P t≠elZ P t∨elZ P t=0∨elBy P t=0∨zz.cells.length≠elZ P t):=by simp[e5,e7,e8]
 have hnew:mI P H.get e (aI n)=some (elZ P t,List.replicate n zz):=by
  show(match fF P e,bm P e with | some w,some z=>if 0≤(n:Int)∧(n:Int)≤cN∧w.cells.length=z∧w.cells.all AV.one then some (z,List.replicate (n:Int).toNat w) else none | _,_=>none)=_
  rw[e4,e2]
  exact if_pos ⟨by omega,h1,by simp[e5,e7,e8],hz⟩
 have hk : ¬(elZ P t≠elZ P t∨true=false):=by simp
 by_cases hn0:n=0
 ·subst hn0
  simp only[cE,eV,Option.bind_some,e1,Option.map_some,Option.getD_some,if_neg hc,e2,e3,e4,hnew,if_neg hd,hq,if_neg hk,List.replicate_zero,if_true]
  rfl
 ·have hn:List.replicate n zz≠[]:=by
   intro h
   have:=congrArg List.length h
   simp only[List.length_replicate,List.length_nil]at this
   omega
  have hd2 : ¬(elZ P t≠elZ P t∨elZ P t=0∨elBy P t=0∨List.replicate n zz=[]∨zz.cells.length≠elZ P t):=by simp[e5,e7,e8,hn0]
  have hw:(0=0∧true=true∧elZ P t=elZ P t∧es.length=es.length∧(es.length+(List.replicate n zz).length) * elBy P t≤cN):=⟨rfl,rfl,rfl,rfl,by rw[List.length_replicate];exact hb⟩
  rw[if_neg hn0]
  simp only[cE,eV,je,Option.bind_some,e1,Option.map_some,Option.getD_some,if_neg hc,e2,e3,e4,hnew,if_neg hd,if_neg hd2,if_neg hn,hq,if_neg hk,List.length_replicate,true_and,if_pos hb]
  rfl
def rblk(st nu of i:Int)(x:List UInt8):List UInt8:=be 4 st++(be 3 nu++([u8 i,u8 of]++(x++List.replicate (119 - x.length) 0)))
def oU(st nu of:Int):Int→List (List UInt8)→List (List UInt8)
 | _,[]=>[]
 | i,x :: xs=>rblk st nu of i x :: oU st nu of (i+1) xs
def pcs:Nat→List UInt8→List (List UInt8)
 | 0,_=>[]
 | m+1,s=>if s=[] then [] else s.take 119 :: pcs m (s.drop 119)
def blkV(b:List UInt8):AV := .isl 1 (by8 b) none
def lS(l:List (List UInt8)):List AV:=l.map blkV
@[simp] theorem ym(l:List (List UInt8)):(lS l).length=l.length:=by simp[lS]
theorem Af(l:List (List UInt8))(b:List UInt8):lS l++[AV.isl 1 (by8 b) none]=lS (l++[b]):=by simp[lS,blkV]
theorem OW(st nu of i:Int)(x:List UInt8)(cp:Option Nat)(hc:x.length≤cp.getD x.length)(hx:x.length≤119):limf env 108 [.isl 1 [.isl 1 (by8 (be 4 st)) none,.isl 1 (by8 (be 3 nu)) none,.isl 1 [a8 (u8 i),a8 (u8 of)] (some 2),.isl 1 (by8 x) cp] (some 4)] =
 some (.fsl 1 (by8 (be 4 st++(be 3 nu++([u8 i,u8 of]++x)))) none):=by
 have e:jY [(be 4 st,AV.isl 1 (by8 (be 4 st)) none),(be 3 nu,.isl 1 (by8 (be 3 nu)) none),([u8 i,u8 of],.isl 1 [a8 (u8 i),a8 (u8 of)] (some 2)),(x,.isl 1 (by8 x) cp)]=be 4 st++(be 3 nu++([u8 i,u8 of]++x)):=by
  simp only[jY,List.flatMap_cons,List.flatMap_nil,List.append_nil]
 rw[←e]
 refine AS (ps:=[(be 4 st,AV.isl 1 (by8 (be 4 st)) none),(be 3 nu,.isl 1 (by8 (be 3 nu)) none),([u8 i,u8 of],.isl 1 [a8 (u8 i),a8 (u8 of)] (some 2)),(x,.isl 1 (by8 x) cp)]) (.inr ⟨some 4,rfl,by simp⟩) ?_ (by simp) (by rw[e];simp;omega) (by rw[e];simp;omega)
 intro p hp
 simp only[List.mem_cons,List.not_mem_nil,or_false]at hp
 rcases hp with rfl | rfl | rfl | rfl
 ·exact Sl.mk _ _
 ·exact Sl.mk _ _
 ·exact .inr ⟨some 2,rfl,by simp⟩
 ·exact Sl.mkC (by simpa using hc)
structure PInv (r r6 r10 r5 r4:Ref) (info:AV) (st nu of:Int) (H:Heap) (out:List (List UInt8)):Prop where
 fr:Fr H
 mark:H.get r=some (fa 0 info)
 ne:r6≠r∧r10≠r∧r5≠r∧r4≠r∧r10≠r6∧r5≠r6∧r4≠r6
 b10:H.get r10=some ⟨1,[aI of],false,false⟩
 b5:H.get r5=some ⟨1,[aI nu],false,false⟩
 b4:H.get r4=some ⟨1,[aI st],false,false⟩
 box:(H.get r6=some ⟨1,[aNil],false,false⟩∧out=[]) ∨∃q:Ref,q.d=2∧q.t=56∧q.k=0∧q≠r∧q≠r6∧q≠r10∧q≠r5∧q≠r4∧H.get r6=some ⟨1,[.osl q 0 out.length none],false,false⟩∧H.get q=some ⟨1,lS out,true,false⟩∧0<out.length
theorem Pm(st nu of i:Int)(x:List UInt8):be 4 st++(be 3 nu++([u8 i,u8 of]++x))++List.replicate (119 - x.length) 0=rblk st nu of i x:=by
 simp[rblk]
theorem Js{r r6 r10 r5 r4:Ref}{tm:List AV}{H:Heap}{st nu of:Int}{out:List (List UInt8)}(h0:0≤st)(h1:0≤nu)(t6:tget tm 6 = .ptr r6 0 0)(t10:tget tm 10 = .ptr r10 0 0)(t5:tget tm 5 = .ptr r5 0 0)(t4:tget tm 4 = .ptr r4 0 0)
 (hI:PInv r r6 r10 r5 r4 (.lp 0 58 [35] bA bx tm) st nu of H out) (hlen:out.length<1000000) (x:List UInt8) (hx:x.length≤119) (cp:Option Nat) (hcp:x.length≤cp.getD x.length) :
 ∃y H',limt env 1 (.yld r) [.isl 1 (by8 x) cp] H=some (y,H')∧(y=aB true∧PInv r r6 r10 r5 r4 (.lp 0 58 [35] bA bx tm) st nu of H' (out++[rblk st nu of out.length x])):=by
 refine C9 (fn:=Tryz.f70) (dep:=1) hI.mark (by kernel_rfl) rfl rfl (by kernel_rfl) (by kernel_rfl) ?_
 rw[←wP (s:=tget (qF tm [35] [.isl 1 (by8 x) cp])) (l:=[(6,.ptr r6 0 0),(10,.ptr r10 0 0),(5,.ptr r5 0 0),(4,.ptr r4 0 0),(35,.isl 1 (by8 x) cp)]) (by
  intro p hp
  simp only[List.mem_cons,List.not_mem_nil,or_false]at hp
  rcases hp with rfl | rfl | rfl | rfl | rfl<;>(show tget (tset tm 35 _) _=_;rw[mY];simp[*]))]
 refine(sL r _ _ _ _ _ _ _ fun g=>?_).h _
 obtain⟨fr,mark,⟨n1,n2,n3,n4,n5,n6,n7⟩,b10,b5,b4,box⟩:=hI
 have m1:=n1.symm
 have m2:=n2.symm
 have m3:=n3.symm
 have m4:=n4.symm
 have m5:=n5.symm
 have m6:=n6.symm
 have m7:=n7.symm
 have l1:(H.get r).isSome=true:=by rw[mark];rfl
 have l10:(H.get r10).isSome=true:=by rw[b10];rfl
 have l5:(H.get r5).isSome=true:=by rw[b5];rfl
 have l4:(H.get r4).isSome=true:=by rw[b4];rfl
 have k4:=OO st h0
 have k3:=OP nu h1
 have hcat:=OW st nu of out.length x cp hcp hx
 have hB:=Pm st nu of out.length x
 have hl9:(be 4 st++(be 3 nu++([u8 (out.length:Int),u8 of]++x))).length=9+x.length:=by simp;omega
 generalize be 4 st++(be 3 nu++([u8 (out.length:Int),u8 of]++x))=B at *
 have e1:IntKind.i64.wrap (128 - (9+(x.length:Int)))=((119 - x.length:Nat):Int):=by rw[IntWalk.i64_in _ (by omega)];omega
 have hap:=Fv (P:=env.P) (t:=76) (t':=3) (by kernel_rfl) (by kernel_rfl) (by kernel_rfl) (H:=({ d:=2,t:=48,g:=H.gen 2 48},some { esz:=1,es:=by8 B,arr:=true,frz:=false}) :: H.put r (some (fa 1 (AV.lp 0 58 [35] bA bx tm)))) (r:=⟨2,54,H.gen 2 54,0⟩) (q:=⟨2,48,H.gen 2 48,0⟩) (es:=by8 B) (fz:=false) (by simp) (119 - x.length) (by simp[cN];omega) (by rw[show elBy env.P 76=1 from by kernel_rfl];simp[cN];omega)
 rw[nB,hl9,show elZ env.P 76=1 from by kernel_rfl,show gq env.P 76=a8 0 from by kernel_rfl]at hap
 have hBV:by8 B++List.replicate (119 - x.length) (a8 0)=by8 (rblk st nu of out.length x):=by rw[←hB];simp[by8]
 clear hB hcp
 rcases box with ⟨hb,rfl⟩ | ⟨q,q1,q2,q3,p1,p2,p3,p4,p5,hb,hq,hpos⟩
 ·have l6:(H.get r6).isSome=true:=by rw[hb];rfl
  rw[show u8 (([]:List (List UInt8)).length:Int)=0 from rfl]at hcat
  have hw:lS ([]++[rblk st nu of ((([]:List (List UInt8)).length:Nat):Int) x])=[AV.isl 1 (by8 (rblk st nu of ((([]:List (List UInt8)).length:Nat):Int) x)) none]:=rfl
  have hfin : ∀H':Heap,Fr H'→H'.get r=some (fa 0 (AV.lp 0 58 [35] bA bx tm))→H'.get r10=some ⟨1,[aI of],false,false⟩→H'.get r5=some ⟨1,[aI nu],false,false⟩→H'.get r4=some ⟨1,[aI st],false,false⟩ →
   H'.get r6=some ⟨1,[.osl ⟨2,56,H.gen 2 56,0⟩ 0 1 none],false,false⟩→H'.get ⟨2,56,H.gen 2 56,0⟩=some ⟨1,[AV.isl 1 (by8 (rblk st nu of ((([]:List (List UInt8)).length:Nat):Int) x)) none],true,false⟩ →
   PInv r r6 r10 r5 r4 (AV.lp 0 58 [35] bA bx tm) st nu of H' ([]++[rblk st nu of ((([]:List (List UInt8)).length:Nat):Int) x]):=fun H' a1 a2 a3 a4 a5 a6 a7 =>
   ⟨a1,a2,⟨n1,n2,n3,n4,n5,n6,n7⟩,a3,a4,a5,.inr ⟨⟨2,56,H.gen 2 56,0⟩,rfl,rfl,rfl,by simp(maxDischargeDepth:=12) [Heap.aj,aD,ar,Fr.nil,aP,af,ah,ad,ae,aF,aq,aa, *],by simp(maxDischargeDepth:=12) [Heap.aj,aD,ar,Fr.nil,aP,af,ah,ad,ae,aF,aq,aa, *],by simp(maxDischargeDepth:=12) [Heap.aj,aD,ar,Fr.nil,aP,af,ah,ad,ae,aF,aq,aa, *],by simp(maxDischargeDepth:=12) [Heap.aj,aD,ar,Fr.nil,aP,af,ah,ad,ae,aF,aq,aa, *],by simp(maxDischargeDepth:=12) [Heap.aj,aD,ar,Fr.nil,aP,af,ah,ad,ae,aF,aq,aa, *],a6,by rw[hw];exact a7,by simp⟩⟩
  clear hw
  by_cases hxl:x.length=119
  ·rw[if_pos (by omega),hxl,show 9+119=128 from rfl,show(((119 - 119:Nat)):Int)=0 from rfl]at hap
   rw[hxl]at hl9 e1
   rw[hxl,Nat.sub_self,List.replicate_zero,List.append_nil]at hBV
   rw[←hBV]at hfin
   clear hBV
   simp[af,ah,ad,ae,aa, *,gj,nj,Heap.aj]
   refine⟨_,rfl,hfin _ ?_ ?_ ?_ ?_ ?_ ?_ ?_⟩<;>simp(maxDischargeDepth:=12) [Heap.aj,aD,ar,Fr.nil,aP,af,ah,ad,ae,aF,aq,aa, *]
  ·rw[if_neg (by omega),hBV,show 9+x.length+(119 - x.length)=128 by omega]at hap
   have hl8:(by8 (rblk st nu of ((([]:List (List UInt8)).length:Nat):Int) x)).length=128:=by rw[←hBV];simp;omega
   clear hBV
   generalize by8 (rblk st nu of ((([]:List (List UInt8)).length:Nat):Int) x)=BB at *
   simp[af,ah,ad,ae,aa, *,gj,nj,Heap.aj]
   refine⟨_,rfl,hfin _ ?_ ?_ ?_ ?_ ?_ ?_ ?_⟩<;>simp(maxDischargeDepth:=12) [Heap.aj,aD,ar,Fr.nil,aP,af,ah,ad,ae,aF,aq,aa, *]
 ·have l6:(H.get r6).isSome=true:=by rw[hb];rfl
  have l7:(H.get q).isSome=true:=by rw[hq];rfl
  have s1:=p1.symm
  have s2:=p2.symm
  have s3:=p3.symm
  have s4:=p4.symm
  have s5:=p5.symm
  obtain⟨qd,qt,qg,qk⟩:=q
  simp only at q1 q2 q3
  subst q1 q2 q3
  have f1:out.length+1≤17592186044416:=by omega
  have f2:(out.length+1) * 24≤140737488355328:=by omega
  have hfin : ∀H':Heap,Fr H'→H'.get r=some (fa 0 (AV.lp 0 58 [35] bA bx tm))→H'.get r10=some ⟨1,[aI of],false,false⟩→H'.get r5=some ⟨1,[aI nu],false,false⟩→H'.get r4=some ⟨1,[aI st],false,false⟩ →
   H'.get r6=some ⟨1,[.osl ⟨2,56,H.gen 2 56,0⟩ 0 (out.length+1) none],false,false⟩→H'.get ⟨2,56,H.gen 2 56,0⟩=some ⟨1,lS out++[AV.isl 1 (by8 (rblk st nu of out.length x)) none],true,false⟩ →
   PInv r r6 r10 r5 r4 (AV.lp 0 58 [35] bA bx tm) st nu of H' (out++[rblk st nu of out.length x]):=fun H' a1 a2 a3 a4 a5 a6 a7 =>
   ⟨a1,a2,⟨n1,n2,n3,n4,n5,n6,n7⟩,a3,a4,a5,.inr ⟨⟨2,56,H.gen 2 56,0⟩,rfl,rfl,rfl,by simp(maxDischargeDepth:=12) [Heap.aj,aD,ar,Fr.nil,aP,af,ah,ad,ae,aF,aq,aa, *],by simp(maxDischargeDepth:=12) [Heap.aj,aD,ar,Fr.nil,aP,af,ah,ad,ae,aF,aq,aa, *],by simp(maxDischargeDepth:=12) [Heap.aj,aD,ar,Fr.nil,aP,af,ah,ad,ae,aF,aq,aa, *],by simp(maxDischargeDepth:=12) [Heap.aj,aD,ar,Fr.nil,aP,af,ah,ad,ae,aF,aq,aa, *],by simp(maxDischargeDepth:=12) [Heap.aj,aD,ar,Fr.nil,aP,af,ah,ad,ae,aF,aq,aa, *],by rw[a6];simp,by rw[a7,Af],by simp⟩⟩
  by_cases hxl:x.length=119
  ·rw[if_pos (by omega),hxl,show 9+119=128 from rfl,show(((119 - 119:Nat)):Int)=0 from rfl]at hap
   rw[hxl]at hl9 e1
   rw[hxl,Nat.sub_self,List.replicate_zero,List.append_nil]at hBV
   rw[←hBV]at hfin
   clear hBV
   simp[af,ah,ad,ae,aa, *,gj,nj,Heap.aj]
   refine⟨_,rfl,hfin _ ?_ ?_ ?_ ?_ ?_ ?_ ?_⟩<;>simp(maxDischargeDepth:=12) [Heap.aj,aD,ar,Fr.nil,aP,af,ah,ad,ae,aF,aq,aa, *]
  ·rw[if_neg (by omega),hBV,show 9+x.length+(119 - x.length)=128 by omega]at hap
   have hl8:(by8 (rblk st nu of out.length x)).length=128:=by rw[←hBV];simp;omega
   clear hBV
   generalize by8 (rblk st nu of out.length x)=BB at *
   simp[af,ah,ad,ae,aa, *,gj,nj,Heap.aj]
   refine⟨_,rfl,hfin _ ?_ ?_ ?_ ?_ ?_ ?_ ?_⟩<;>simp(maxDischargeDepth:=12) [Heap.aj,aD,ar,Fr.nil,aP,af,ah,ad,ae,aF,aq,aa, *]
end Go.Proofs.YtiidajnodhkidaaGreat
