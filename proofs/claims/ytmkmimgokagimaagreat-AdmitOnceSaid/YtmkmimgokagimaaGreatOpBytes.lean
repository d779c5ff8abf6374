/-
  An operation's bytes: what op.Put answers. No statement of a seat is proved here.
-/
import Derived.Test.YtmkmimgokagimaaGreatCatFns
import Derived.Test.YtmkmimgokagimaaGreatMOpFns
set_option linter.unusedVariables false
set_option linter.unusedSimpArgs false
set_option linter.unusedSectionVars false
set_option linter.unnecessarySimpa false
set_option maxRecDepth 100000
namespace Go.Proofs.YtmkmimgokagimaaGreat
open Go.Ab
attribute [local simp] bj aL aF bg bf keep thr bx aT bc da cZ cJ bD aD bM List.take_of_length_le
def bsO(z:Nat)(zz:AV)(H:Heap)(r:Ref)(n:Nat)(ws:List (Nat × AV))(refs:List Ref):WRes:=match fq (List.replicate n zz) ws with
 | some es=>some (.osl r 0 n (some n),(r,some ⟨z,es,true,false⟩) :: bR H refs)
 | none=>none
theorem Am{P:Program}{draw:Bool}{t:TypeId}(hT:elOk P t=true)(H:Heap)(d tt gn:Nat)(n:Nat)(ps:List (Nat × AV))(hsz:n * elZ P t≤16777216)(hv:(dz H.get ps).isSome=true)
 (hc:((dz H.get ps).getD []).all (fun p=>p.2.cells.length == elZ P t&&p.2.cells.all AV.one)=true) (hf:(fq (List.replicate n (iT P t)) ((dz H.get ps).getD [])).isSome=true) (hfz:iE H.get (bL H.get (ps.map (·.2)))=false) :
 gm P draw true H ⟨d,tt,gn,0⟩ t n (some ps)=bsO (elZ P t) (iT P t) H ⟨d,tt,gn,0⟩ n ((dz H.get ps).getD []) (bL H.get (ps.map (·.2))):=by
 obtain⟨ws,hw⟩:=Option.isSome_iff_exists.1 hv
 rw[hw,Option.getD_some]at hc hf ⊢
 obtain⟨es,hf⟩:=Option.isSome_iff_exists.1 hf
 unfold elOk at hT
 obtain⟨e,zz,h1,h2,h3,h4,h5,h6,h7,h8⟩:=iB hT
 have hz':iT P t=zz:=by unfold iT;rw[h1,Option.bind_some,h4];rfl
 rw[hz']at hf ⊢
 have hmk:mkSlice P H.get t n ps=some ⟨elZ P t,es,true,false⟩:=by
  simp only[mkSlice,h1,hw,h4,h2]
  rw[if_pos ⟨Nat.pos_of_ne_zero h7,hsz,h5,h6,by simpa using hc⟩,hf]
  rfl
 have hq:eK P draw H.get ⟨d,tt,gn,0⟩ t n (some ps)=none:=by
  simp only[eK,hfz,Bool.false_eq_true,if_false]
 unfold gm bsO
 rw[hq,hf]
 simp only[nRes,orW,cond_true,fW,hmk,Option.map_some]
attribute [local simp] Am bsO dz
def qv(o:Opn):List UInt8:=[o.kind]++(hZ o.h++(be 3 o.serial++(iQ o.s.f++[u8 o.s.many])))
theorem be_3(n:Int):be 3 n=[u8 (n / 65536),u8 (n / 256),u8 n]:=by simp[FB]
theorem Ca(a_1:UInt8)(h:Han)(a_5:Int)(f:Idd)(a_10:Int):limf env 209 [.isl 1 [.isl 1 [a8 a_1] (some 1),.isl 1 (by8 (hZ h)) none,.isl 1 [a8 (u8 (a_5 / 65536)),a8 (u8 (a_5 / 256)),a8 (u8 a_5)] (some 3),.isl 1 (by8 (iQ f)) none,.isl 1 [a8 (u8 a_10)] (some 1)] (some 5)] =
 some (.fsl 1 (by8 ([a_1]++(hZ h++(be 3 a_5++(iQ f++[u8 a_10]))))) none):=by
 have e:ly [([a_1],AV.isl 1 [a8 a_1] (some 1)),(hZ h,.isl 1 (by8 (hZ h)) none),(be 3 a_5,.isl 1 [a8 (u8 (a_5 / 65536)),a8 (u8 (a_5 / 256)),a8 (u8 a_5)] (some 3)),(iQ f,.isl 1 (by8 (iQ f)) none),([u8 a_10],.isl 1 [a8 (u8 a_10)] (some 1))]=[a_1]++(hZ h++(be 3 a_5++(iQ f++[u8 a_10]))):=by
  simp only[ly,List.flatMap_cons,List.flatMap_nil,List.append_nil]
 rw[←e]
 refine F3 (ps:=[([a_1],AV.isl 1 [a8 a_1] (some 1)),(hZ h,.isl 1 (by8 (hZ h)) none),(be 3 a_5,.isl 1 [a8 (u8 (a_5 / 65536)),a8 (u8 (a_5 / 256)),a8 (u8 a_5)] (some 3)),(iQ f,.isl 1 (by8 (iQ f)) none),([u8 a_10],.isl 1 [a8 (u8 a_10)] (some 1))]) (.inr ⟨some 5,rfl,by simp⟩) ?_ (by simp) (by rw[e];simp) (by rw[e];simp)
 intro p hp
 simp only[List.mem_cons,List.not_mem_nil,or_false]at hp
 rcases hp with rfl | rfl | rfl | rfl | rfl
 ·exact .inr ⟨some 1,rfl,by simp⟩
 ·exact Sl.mk _ _
 ·exact .inr ⟨some 3,by rw[be_3];rfl,by simp⟩
 ·exact Sl.mk _ _
 ·exact .inr ⟨some 1,rfl,by simp⟩
theorem Li(a_1:UInt8)(a_2:UInt8)(a_3:UInt32)(a_4:UInt8)(a_5:Int)(a_6:UInt8)(a_7:UInt32)(a_8:UInt8)(a_9:Int)(a_10:Int)(a_11:UInt8)(a_12:UInt32)(a_13:UInt8)(a_14:Int)(a_15:UInt8)(a_16:UInt32){x:AV}{l:List Int}(hx:Sl 1 (rows l) x)(hl:l.length<2000000)(ho:opB (⟨a_1,⟨a_2,a_3,a_4⟩,a_5,⟨⟨⟨a_6,a_7,a_8⟩,a_9⟩,a_10⟩,⟨⟨a_11,a_12,a_13⟩,a_14⟩,⟨a_15,a_16⟩,l⟩:Opn)=true)(h2:a_1=2):limf env 163 [.agg [a8 a_1,a8 a_2,a32 a_3,a8 a_4,aI a_5,a8 a_6,a32 a_7,a8 a_8,aI a_9,aI a_10,a8 a_11,a32 a_12,a8 a_13,aI a_14,a8 a_15,a32 a_16,x]]=some (.tup [.isl 1 (by8 (qv (⟨a_1,⟨a_2,a_3,a_4⟩,a_5,⟨⟨⟨a_6,a_7,a_8⟩,a_9⟩,a_10⟩,⟨⟨a_11,a_12,a_13⟩,a_14⟩,⟨a_15,a_16⟩,l⟩:Opn))) none,aI 0]):=by
 refine aw (fn:=Tryz.f163) (c:=rP) rfl (by kernel_rfl) (by kernel_rfl) (by kernel_rfl) (by kernel_rfl) ?_;refine uH _ _ _ fun g=>?_
 have hc:=iN a_1 a_2 a_3 a_4 a_5 a_6 a_7 a_8 a_9 a_10 a_11 a_12 a_13 a_14 a_15 a_16 hx hl
 rw[ho]at hc
 have hh:hY ⟨a_2,a_3,a_4⟩=true:=by simp only[opB,Bool.and_eq_true]at ho;exact ho.1
 have hs:idB ⟨⟨a_6,a_7,a_8⟩,a_9⟩=true:=by
  simp only[opB,Bool.and_eq_true]at ho
  have:=ho.2.2.2.1
  simp only[kR,Bool.and_eq_true]at this
  exact this.1
 clear ho
 subst h2
 have hC:=Ca 2 ⟨a_2,a_3,a_4⟩ a_5 ⟨⟨a_6,a_7,a_8⟩,a_9⟩ a_10
 unfold qv
 simp[af,ah,ad,ae,ab, *,pL,hx.r,bad,eY,dM]
theorem Lh(a_1:UInt8)(a_2:UInt8)(a_3:UInt32)(a_4:UInt8)(a_5:Int)(a_6:UInt8)(a_7:UInt32)(a_8:UInt8)(a_9:Int)(a_10:Int)(a_11:UInt8)(a_12:UInt32)(a_13:UInt8)(a_14:Int)(a_15:UInt8)(a_16:UInt32){x:AV}{l:List Int}(hx:Sl 1 (rows l) x)(hl:l.length<2000000)(ho:opB (⟨a_1,⟨a_2,a_3,a_4⟩,a_5,⟨⟨⟨a_6,a_7,a_8⟩,a_9⟩,a_10⟩,⟨⟨a_11,a_12,a_13⟩,a_14⟩,⟨a_15,a_16⟩,l⟩:Opn)=true)(h2:a_1=3):limf env 163 [.agg [a8 a_1,a8 a_2,a32 a_3,a8 a_4,aI a_5,a8 a_6,a32 a_7,a8 a_8,aI a_9,aI a_10,a8 a_11,a32 a_12,a8 a_13,aI a_14,a8 a_15,a32 a_16,x]]=some (.tup [.isl 1 (by8 (qv (⟨a_1,⟨a_2,a_3,a_4⟩,a_5,⟨⟨⟨a_6,a_7,a_8⟩,a_9⟩,a_10⟩,⟨⟨a_11,a_12,a_13⟩,a_14⟩,⟨a_15,a_16⟩,l⟩:Opn)++(a_15 :: be 4 a_16.toNat))) none,aI 0]):=by
 refine aw (fn:=Tryz.f163) (c:=rP) rfl (by kernel_rfl) (by kernel_rfl) (by kernel_rfl) (by kernel_rfl) ?_;refine uH _ _ _ fun g=>?_
 have hc:=iN a_1 a_2 a_3 a_4 a_5 a_6 a_7 a_8 a_9 a_10 a_11 a_12 a_13 a_14 a_15 a_16 hx hl
 rw[ho]at hc
 subst h2
 have hh:hY ⟨a_2,a_3,a_4⟩=true:=by simp only[opB,Bool.and_eq_true]at ho;exact ho.1
 have hs:idB ⟨⟨a_6,a_7,a_8⟩,a_9⟩=true:=by
  simp only[opB,Bool.and_eq_true]at ho
  have:=ho.2.2.2.1
  simp only[kR,Bool.and_eq_true]at this
  exact this.1
 have h3:hY ⟨a_15,a_16,0⟩=true:=by
  simp only[opB,Bool.and_eq_true]at ho
  have:=ho.2.2.2.2
  simp only[mayB,raiB]at this
  simp at this
  simp[hY,this]
 clear ho
 have hC:=Ca 3 ⟨a_2,a_3,a_4⟩ a_5 ⟨⟨a_6,a_7,a_8⟩,a_9⟩ a_10
 unfold qv
 have hb:hZ ⟨a_15,a_16,0⟩=a_15 :: (be 4 a_16.toNat++[0]):=rfl
 have hlen:(by8 ([(3:UInt8)]++(hZ ⟨a_2,a_3,a_4⟩++(be 3 a_5++(iQ ⟨⟨a_6,a_7,a_8⟩,a_9⟩++[u8 a_10]))))).length=24:=by simp
 have hput:=Ew a_15 a_16 0
 rw[if_pos h3,hb,be_4]at hput
 rw[be_4]
 rw[show by8 (([(3:UInt8)]++(hZ ⟨a_2,a_3,a_4⟩++(be 3 a_5++(iQ ⟨⟨a_6,a_7,a_8⟩,a_9⟩++[u8 a_10]))))++[a_15,u8 (↑a_16.toNat / 16777216),u8 (↑a_16.toNat / 65536),u8 (↑a_16.toNat / 256),u8 ↑a_16.toNat])=by8 ([(3:UInt8)]++(hZ ⟨a_2,a_3,a_4⟩++(be 3 a_5++(iQ ⟨⟨a_6,a_7,a_8⟩,a_9⟩++[u8 a_10]))))++[a8 a_15,a8 (u8 (↑a_16.toNat / 16777216)),a8 (u8 (↑a_16.toNat / 65536)),a8 (u8 (↑a_16.toNat / 256)),a8 (u8 ↑a_16.toNat)] from List.map_append ..]
 have hne:by8 ([(3:UInt8)]++(hZ ⟨a_2,a_3,a_4⟩++(be 3 a_5++(iQ ⟨⟨a_6,a_7,a_8⟩,a_9⟩++[u8 a_10]))))≠[]:=by intro e;rw[e]at hlen;cases hlen
 generalize by8 ([(3:UInt8)]++(hZ ⟨a_2,a_3,a_4⟩++(be 3 a_5++(iQ ⟨⟨a_6,a_7,a_8⟩,a_9⟩++[u8 a_10]))))=C at *
 clear h3 hb
 simp[af,ah,ad,ae,ab, *,pL,hx.r,bad,eY,dM]
 rfl
theorem IC(C A R:List UInt8)(cA:Option Nat)(hA:A.length≤cA.getD A.length)(h0:0<C.length)(h1:C.length+A.length+R.length<1000000):limf env 209 [.isl 1 [.isl 1 (by8 C) none,.isl 1 (by8 A) cA,.isl 1 (by8 R) none] (some 3)]=some (.fsl 1 (by8 (C++(A++R))) none):=by
 have e:ly [(C,AV.isl 1 (by8 C) none),(A,.isl 1 (by8 A) cA),(R,.isl 1 (by8 R) none)]=C++(A++R):=by
  simp only[ly,List.flatMap_cons,List.flatMap_nil,List.append_nil]
 rw[←e]
 refine F3 (ps:=[(C,AV.isl 1 (by8 C) none),(A,.isl 1 (by8 A) cA),(R,.isl 1 (by8 R) none)]) (.inr ⟨some 3,rfl,by simp⟩) ?_ (by simp) (by rw[e];simp;omega) (by rw[e];simp;omega)
 intro p hp
 simp only[List.mem_cons,List.not_mem_nil,or_false]at hp
 rcases hp with rfl | rfl | rfl
 ·exact Sl.mk _ _
 ·exact .inr ⟨cA,rfl,by simpa using hA⟩
 ·exact Sl.mk _ _
theorem Lg(a_1:UInt8)(a_2:UInt8)(a_3:UInt32)(a_4:UInt8)(a_5:Int)(a_6:UInt8)(a_7:UInt32)(a_8:UInt8)(a_9:Int)(a_10:Int)(a_11:UInt8)(a_12:UInt32)(a_13:UInt8)(a_14:Int)(a_15:UInt8)(a_16:UInt32){x:AV}{l:List Int}(hx:Sl 1 (rows l) x)(hl:l.length<2000000)(ho:opB (⟨a_1,⟨a_2,a_3,a_4⟩,a_5,⟨⟨⟨a_6,a_7,a_8⟩,a_9⟩,a_10⟩,⟨⟨a_11,a_12,a_13⟩,a_14⟩,⟨a_15,a_16⟩,l⟩:Opn)=false):limf env 163 [.agg [a8 a_1,a8 a_2,a32 a_3,a8 a_4,aI a_5,a8 a_6,a32 a_7,a8 a_8,aI a_9,aI a_10,a8 a_11,a32 a_12,a8 a_13,aI a_14,a8 a_15,a32 a_16,x]]=some (.tup [aNil,aI 8]):=by
 refine aw (fn:=Tryz.f163) (c:=rP) rfl (by kernel_rfl) (by kernel_rfl) (by kernel_rfl) (by kernel_rfl) ?_;refine uH _ _ _ fun g=>?_
 have hc:=iN a_1 a_2 a_3 a_4 a_5 a_6 a_7 a_8 a_9 a_10 a_11 a_12 a_13 a_14 a_15 a_16 hx hl
 rw[ho]at hc
 clear ho
 simp[af,ah,ad,ae,ab, *,pL,hx.r,bad]
@[simp] theorem XS(r:Ref):Dx env.P r 170 (some (.v (.int .i64 13))) (some (.v (.int .i64 13)))=some (.osl r 0 13 none,[⟨1,[a8 0,a8 0,a8 0,a8 0,a8 0,a8 0,a8 0,a8 0,a8 0,a8 0,a8 0,a8 0,a8 0],true,false⟩]):=by kernel_rfl
theorem Jp{o:Opn}(h:opB o=true):kR o.s=true:=by
 simp only[opB,Bool.and_eq_true]at h
 exact h.2.2.2.1
theorem RQ{l:List Int}(h:rowB l=true):rowE l=0∧l.length≤64 ∧∀n∈l, -2147483648≤n∧n≤2147483647:=by
 simp only[rowB,Bool.and_eq_true,decide_eq_true_eq]at h
 refine⟨by unfold rowE;rw[if_neg (by omega),if_pos h.2],h.1,fun n hn=>?_⟩
 have:=List.all_eq_true.1 h.2 n hn
 simp only[tZ,Bool.or_eq_true,Bool.and_eq_true,decide_eq_true_eq]at this
 omega
def xJ(a:Idd):List UInt8:=if kD a then List.replicate 13 0 else iQ a
theorem Lj(a_1:UInt8)(a_2:UInt8)(a_3:UInt32)(a_4:UInt8)(a_5:Int)(a_6:UInt8)(a_7:UInt32)(a_8:UInt8)(a_9:Int)(a_10:Int)(a_11:UInt8)(a_12:UInt32)(a_13:UInt8)(a_14:Int)(a_15:UInt8)(a_16:UInt32){x:AV}{l:List Int}(hx:Sl 1 (rows l) x)(hl:l.length<2000000)(ho:opB (⟨a_1,⟨a_2,a_3,a_4⟩,a_5,⟨⟨⟨a_6,a_7,a_8⟩,a_9⟩,a_10⟩,⟨⟨a_11,a_12,a_13⟩,a_14⟩,⟨a_15,a_16⟩,l⟩:Opn)=true)(h2:a_1=1):limf env 163 [.agg [a8 a_1,a8 a_2,a32 a_3,a8 a_4,aI a_5,a8 a_6,a32 a_7,a8 a_8,aI a_9,aI a_10,a8 a_11,a32 a_12,a8 a_13,aI a_14,a8 a_15,a32 a_16,x]]=some (.tup [.isl 1 (by8 (qv (⟨a_1,⟨a_2,a_3,a_4⟩,a_5,⟨⟨⟨a_6,a_7,a_8⟩,a_9⟩,a_10⟩,⟨⟨a_11,a_12,a_13⟩,a_14⟩,⟨a_15,a_16⟩,l⟩:Opn)++(xJ ⟨⟨a_11,a_12,a_13⟩,a_14⟩++eP l))) none,aI 0]):=by
 refine aw (fn:=Tryz.f163) (c:=rP) rfl (by kernel_rfl) (by kernel_rfl) (by kernel_rfl) (by kernel_rfl) ?_;refine uH _ _ _ fun g=>?_
 have hc:=iN a_1 a_2 a_3 a_4 a_5 a_6 a_7 a_8 a_9 a_10 a_11 a_12 a_13 a_14 a_15 a_16 hx hl
 rw[ho]at hc
 subst h2
 have hh:hY ⟨a_2,a_3,a_4⟩=true:=by simp only[opB,Bool.and_eq_true]at ho;exact ho.1
 have hsp:=Jp ho
 have hs:idB ⟨⟨a_6,a_7,a_8⟩,a_9⟩=true:=by
  have:=hsp
  simp only[kR,Bool.and_eq_true]at this
  exact this.1
 obtain⟨hz,hlen,hrow⟩:(kD ⟨⟨a_11,a_12,a_13⟩,a_14⟩||idB ⟨⟨a_11,a_12,a_13⟩,a_14⟩)=true∧(l.length:Int)=a_10∧rowB l=true:=by
  simp only[opB,Bool.and_eq_true]at ho
  have:=ho.2.2.2.2
  simp[mayB,insB]at this
  refine⟨by simpa using this.2.1,this.2.2.2.1,this.2.2.2.2⟩
 obtain⟨hE,h64,hR⟩:=RQ hrow
 have hn:=lX hsp
 simp only at hn
 have hput:=Oo hx (by omega) hR
 rw[if_pos hE]at hput
 have hrl:=sN l
 have hne:by8 (eP l)≠[]:=by
  intro e
  have:=congrArg List.length e
  have h3:(by8 (eP l)).length=(eP l).length:=by simp
  simp only[List.length_nil]at this
  omega
 rw[Jo 1 hne]at hput
 clear ho hrow hE hR hn
 have hC:=Ca 1 ⟨a_2,a_3,a_4⟩ a_5 ⟨⟨a_6,a_7,a_8⟩,a_9⟩ a_10
 unfold qv
 have hCl:([(1:UInt8)]++(hZ ⟨a_2,a_3,a_4⟩++(be 3 a_5++(iQ ⟨⟨a_6,a_7,a_8⟩,a_9⟩++[u8 a_10])))).length=24:=by simp
 generalize ([(1:UInt8)]++(hZ ⟨a_2,a_3,a_4⟩++(be 3 a_5++(iQ ⟨⟨a_6,a_7,a_8⟩,a_9⟩++[u8 a_10]))))=C at *
 generalize eP l=R at *
 cases hza:kD ⟨⟨a_11,a_12,a_13⟩,a_14⟩ with
 | true =>
  have hT:=IC C (List.replicate 13 0) R none (by simp) (by omega) (by simp;omega)
  rw[show xJ ⟨⟨a_11,a_12,a_13⟩,a_14⟩=List.replicate 13 0 by unfold xJ;rw[if_pos hza]]
  obtain⟨⟨⟨rfl,rfl⟩,rfl⟩,rfl⟩:((a_11=0∧a_12=0)∧a_13=0)∧a_14=0:=by simpa [kD] using hza
  have hr13:by8 (List.replicate 13 0)=[a8 0,a8 0,a8 0,a8 0,a8 0,a8 0,a8 0,a8 0,a8 0,a8 0,a8 0,a8 0,a8 0]:=rfl
  rw[hr13]at hT
  generalize by8 (C++(List.replicate 13 0++R))=W at *
  clear hza hz hlen
  simp[af,ah,ad,ae,ab, *,pL,hx.r,bad,eY,dM,eqA,eqFs]
 | false =>
  rw[hza,Bool.false_or]at hz
  have hT:=IC C (iQ ⟨⟨a_11,a_12,a_13⟩,a_14⟩) R none (by simp) (by omega) (by simp;omega)
  rw[show xJ ⟨⟨a_11,a_12,a_13⟩,a_14⟩=iQ ⟨⟨a_11,a_12,a_13⟩,a_14⟩ by unfold xJ;rw[if_neg (by rw[hza];decide)]]
  generalize by8 (C++(iQ ⟨⟨a_11,a_12,a_13⟩,a_14⟩++R))=W at *
  have hnz:(decide (a_11=0)&&decide (a_12=0)&&decide (a_13=0)&&decide (a_14=0))=false:=hza
  clear hza hlen
  simp[af,ah,ad,ae,ab, *,pL,hx.r,bad,eY,dM,eqA,eqFs]
end Go.Proofs.YtmkmimgokagimaaGreat
