/-
  An operation's bytes: what op.Put answers. No statement of a seat is proved here.
-/
import Derived.Test.YtdbiffjdomokfaaGreatCatFns
import Derived.Test.YtdbiffjdomokfaaGreatMOpFns
set_option linter.unusedVariables false
set_option linter.unusedSimpArgs false
set_option linter.unusedSectionVars false
set_option linter.unnecessarySimpa false
set_option maxRecDepth 100000
namespace Go.Proofs.YtdbiffjdomokfaaGreat
open Go.Ab
attribute [local simp] bD bq bo bF bE cZ ld bQ bx bA dx dw cg bT aY ct List.take_of_length_le
def bsO(z:Nat)(zz:AV)(H:ab)(r:Ref)(n:Nat)(ws:List (Nat × AV))(refs:List Ref):dy:=match fZ (List.replicate n zz) ws with
 | some es=>some (.cH r 0 n (some n),(r,some ⟨z,es,true,false⟩) :: cC H refs)
 | none=>none
theorem Lv{P:Program}{draw:Bool}{t:TypeId}(hT:nK P t=true)(H:ab)(d tt gn:Nat)(n:Nat)(ps:List (Nat × AV))(hsz:n * lB P t≤16777216)(hv:(eR H.get ps).isSome=true)
 (hc:((eR H.get ps).getD []).all (fun p=>p.2.cells.length == lB P t&&p.2.cells.all AV.one)=true) (hf:(fZ (List.replicate n (iG P t)) ((eR H.get ps).getD [])).isSome=true) (hfz:ib H.get (cb H.get (ps.map (·.2)))=false) :
 eX P draw true H ⟨d,tt,gn,0⟩ t n (some ps)=bsO (lB P t) (iG P t) H ⟨d,tt,gn,0⟩ n ((eR H.get ps).getD []) (cb H.get (ps.map (·.2))):=by
 obtain⟨ws,hw⟩:=Option.isSome_iff_exists.1 hv
 rw[hw,Option.getD_some]at hc hf ⊢
 obtain⟨es,hf⟩:=Option.isSome_iff_exists.1 hf
 unfold nK at hT
 obtain⟨e,zz,h1,h2,h3,h4,h5,h6,h7,h8⟩:=jj hT
 have hz':iG P t=zz:=by unfold iG;rw[h1,Option.bind_some,h4];rfl
 rw[hz']at hf ⊢
 have hmk:mkSlice P H.get t n ps=some ⟨lB P t,es,true,false⟩:=by
  simp only[mkSlice,h1,hw,h4,h2]
  rw[if_pos ⟨Nat.pos_of_ne_zero h7,hsz,h5,h6,by simpa using hc⟩,hf]
  rfl
 have hq:fC P draw H.get ⟨d,tt,gn,0⟩ t n (some ps)=none:=by
  simp only[fC,hfz,Bool.false_eq_true,if_false]
 unfold eX bsO
 rw[hq,hf]
 simp only[bl,AA,cond_true,ic,hmk,Option.map_some]
attribute [local simp] Lv bsO eR
def pG(o:bR):List UInt8:=[o.kind]++(gP o.h++(be 3 o.serial++(iC o.s.f++[u8 o.s.many])))
theorem aaf(n:Int):be 3 n=[u8 (n / 65536),u8 (n / 256),u8 n]:=by simp[Ft]
theorem Bv(bh:UInt8)(h:AO)(aX:Int)(f:fl)(au:Int):bj env 120 [.cw 1 [.cw 1 [a8 bh] (some 1),.cw 1 (hU (gP h)) none,.cw 1 [a8 (u8 (aX / 65536)),a8 (u8 (aX / 256)),a8 (u8 aX)] (some 3),.cw 1 (hU (iC f)) none,.cw 1 [a8 (u8 au)] (some 1)] (some 5)] =
 some (.fsl 1 (hU ([bh]++(gP h++(be 3 aX++(iC f++[u8 au]))))) none):=by
 have e:jh [([bh],AV.cw 1 [a8 bh] (some 1)),(gP h,.cw 1 (hU (gP h)) none),(be 3 aX,.cw 1 [a8 (u8 (aX / 65536)),a8 (u8 (aX / 256)),a8 (u8 aX)] (some 3)),(iC f,.cw 1 (hU (iC f)) none),([u8 au],.cw 1 [a8 (u8 au)] (some 1))]=[bh]++(gP h++(be 3 aX++(iC f++[u8 au]))):=by
  simp only[jh,List.flatMap_cons,List.flatMap_nil,List.append_nil]
 rw[←e]
 refine Gb (ps:=[([bh],AV.cw 1 [a8 bh] (some 1)),(gP h,.cw 1 (hU (gP h)) none),(be 3 aX,.cw 1 [a8 (u8 (aX / 65536)),a8 (u8 (aX / 256)),a8 (u8 aX)] (some 3)),(iC f,.cw 1 (hU (iC f)) none),([u8 au],.cw 1 [a8 (u8 au)] (some 1))]) (.inr ⟨some 5,rfl,by simp⟩) ?_ (by simp) (by rw[e];simp) (by rw[e];simp)
 intro p hp
 simp only[List.mem_cons,List.not_mem_nil,or_false]at hp
 rcases hp with rfl | rfl | rfl | rfl | rfl
 ·exact .inr ⟨some 1,rfl,by simp⟩
 ·exact Sl.mk _ _
 ·exact .inr ⟨some 3,by rw[aaf];rfl,by simp⟩
 ·exact Sl.mk _ _
 ·exact .inr ⟨some 1,rfl,by simp⟩
theorem Mt(bh:UInt8)(aQ:UInt8)(aP:UInt32)(aT:UInt8)(aX:Int)(bc:UInt8)(ba:UInt32)(bf:UInt8)(bg:Int)(au:Int)(az:UInt8)(ay:UInt32)(ax:UInt8)(aw:Int)(aC:UInt8)(aA:UInt32){x:AV}{l:List Int}(hx:Sl 1 (rows l) x)(hl:l.length<2000000)(ho:qy (⟨bh,⟨aQ,aP,aT⟩,aX,⟨⟨⟨bc,ba,bf⟩,bg⟩,au⟩,⟨⟨az,ay,ax⟩,aw⟩,⟨aC,aA⟩,l⟩:bR)=true)(h2:bh=2):bj env 99 [.agg [a8 bh,a8 aQ,aF aP,a8 aT,aI aX,a8 bc,aF ba,a8 bf,aI bg,aI au,a8 az,aF ay,a8 ax,aI aw,a8 aC,aF aA,x]]=some (.tup [.cw 1 (hU (pG (⟨bh,⟨aQ,aP,aT⟩,aX,⟨⟨⟨bc,ba,bf⟩,bg⟩,au⟩,⟨⟨az,ay,ax⟩,aw⟩,⟨aC,aA⟩,l⟩:bR))) none,aI 0]):=by
 refine aL (fn:=Tryz.f99) (c:=sH) rfl (by kernel_rfl) (by kernel_rfl) (by kernel_rfl) (by kernel_rfl) ?_;refine vu _ _ _ fun g=>?_
 have hc:=lG bh aQ aP aT aX bc ba bf bg au az ay ax aw aC aA hx hl
 rw[ho]at hc
 have hh:lV ⟨aQ,aP,aT⟩=true:=by simp only[qy,Bool.and_eq_true]at ho;exact ho.1
 have hs:Ed ⟨⟨bc,ba,bf⟩,bg⟩=true:=by
  simp only[qy,Bool.and_eq_true]at ho
  have:=ho.2.2.2.1
  simp only[je,Bool.and_eq_true]at this
  exact this.1
 clear ho
 subst h2
 have hC:=Bv 2 ⟨aQ,aP,aT⟩ aX ⟨⟨bc,ba,bf⟩,bg⟩ au
 unfold pG
 simp[ah,ai,ae,af,ad, *,pN,hx.r,bad,fp,eN]
theorem Ms(bh:UInt8)(aQ:UInt8)(aP:UInt32)(aT:UInt8)(aX:Int)(bc:UInt8)(ba:UInt32)(bf:UInt8)(bg:Int)(au:Int)(az:UInt8)(ay:UInt32)(ax:UInt8)(aw:Int)(aC:UInt8)(aA:UInt32){x:AV}{l:List Int}(hx:Sl 1 (rows l) x)(hl:l.length<2000000)(ho:qy (⟨bh,⟨aQ,aP,aT⟩,aX,⟨⟨⟨bc,ba,bf⟩,bg⟩,au⟩,⟨⟨az,ay,ax⟩,aw⟩,⟨aC,aA⟩,l⟩:bR)=true)(h2:bh=3):bj env 99 [.agg [a8 bh,a8 aQ,aF aP,a8 aT,aI aX,a8 bc,aF ba,a8 bf,aI bg,aI au,a8 az,aF ay,a8 ax,aI aw,a8 aC,aF aA,x]]=some (.tup [.cw 1 (hU (pG (⟨bh,⟨aQ,aP,aT⟩,aX,⟨⟨⟨bc,ba,bf⟩,bg⟩,au⟩,⟨⟨az,ay,ax⟩,aw⟩,⟨aC,aA⟩,l⟩:bR)++(aC :: be 4 aA.toNat))) none,aI 0]):=by
 refine aL (fn:=Tryz.f99) (c:=sH) rfl (by kernel_rfl) (by kernel_rfl) (by kernel_rfl) (by kernel_rfl) ?_;refine vu _ _ _ fun g=>?_
 have hc:=lG bh aQ aP aT aX bc ba bf bg au az ay ax aw aC aA hx hl
 rw[ho]at hc
 subst h2
 have hh:lV ⟨aQ,aP,aT⟩=true:=by simp only[qy,Bool.and_eq_true]at ho;exact ho.1
 have hs:Ed ⟨⟨bc,ba,bf⟩,bg⟩=true:=by
  simp only[qy,Bool.and_eq_true]at ho
  have:=ho.2.2.2.1
  simp only[je,Bool.and_eq_true]at this
  exact this.1
 have h3:lV ⟨aC,aA,0⟩=true:=by
  simp only[qy,Bool.and_eq_true]at ho
  have:=ho.2.2.2.2
  simp only[K0,KJ]at this
  simp at this
  simp[lV,this]
 clear ho
 have hC:=Bv 3 ⟨aQ,aP,aT⟩ aX ⟨⟨bc,ba,bf⟩,bg⟩ au
 unfold pG
 have hb:gP ⟨aC,aA,0⟩=aC :: (be 4 aA.toNat++[0]):=rfl
 have hlen:(hU ([(3:UInt8)]++(gP ⟨aQ,aP,aT⟩++(be 3 aX++(iC ⟨⟨bc,ba,bf⟩,bg⟩++[u8 au]))))).length=24:=by simp
 have hput:=F5 aC aA 0
 rw[if_pos h3,hb,Ji]at hput
 rw[Ji]
 rw[show hU (([(3:UInt8)]++(gP ⟨aQ,aP,aT⟩++(be 3 aX++(iC ⟨⟨bc,ba,bf⟩,bg⟩++[u8 au]))))++[aC,u8 (↑aA.toNat / 16777216),u8 (↑aA.toNat / 65536),u8 (↑aA.toNat / 256),u8 ↑aA.toNat])=hU ([(3:UInt8)]++(gP ⟨aQ,aP,aT⟩++(be 3 aX++(iC ⟨⟨bc,ba,bf⟩,bg⟩++[u8 au]))))++[a8 aC,a8 (u8 (↑aA.toNat / 16777216)),a8 (u8 (↑aA.toNat / 65536)),a8 (u8 (↑aA.toNat / 256)),a8 (u8 ↑aA.toNat)] from List.map_append ..]
 have hne:hU ([(3:UInt8)]++(gP ⟨aQ,aP,aT⟩++(be 3 aX++(iC ⟨⟨bc,ba,bf⟩,bg⟩++[u8 au]))))≠[]:=by intro e;rw[e]at hlen;cases hlen
 generalize hU ([(3:UInt8)]++(gP ⟨aQ,aP,aT⟩++(be 3 aX++(iC ⟨⟨bc,ba,bf⟩,bg⟩++[u8 au]))))=C at *
 clear h3 hb
 simp[ah,ai,ae,af,ad, *,pN,hx.r,bad,fp,eN]
 rfl
theorem Ju(C A R:List UInt8)(cA:Option Nat)(hA:A.length≤cA.getD A.length)(h0:0<C.length)(h1:C.length+A.length+R.length<1000000):bj env 120 [.cw 1 [.cw 1 (hU C) none,.cw 1 (hU A) cA,.cw 1 (hU R) none] (some 3)]=some (.fsl 1 (hU (C++(A++R))) none):=by
 have e:jh [(C,AV.cw 1 (hU C) none),(A,.cw 1 (hU A) cA),(R,.cw 1 (hU R) none)]=C++(A++R):=by
  simp only[jh,List.flatMap_cons,List.flatMap_nil,List.append_nil]
 rw[←e]
 refine Gb (ps:=[(C,AV.cw 1 (hU C) none),(A,.cw 1 (hU A) cA),(R,.cw 1 (hU R) none)]) (.inr ⟨some 3,rfl,by simp⟩) ?_ (by simp) (by rw[e];simp;omega) (by rw[e];simp;omega)
 intro p hp
 simp only[List.mem_cons,List.not_mem_nil,or_false]at hp
 rcases hp with rfl | rfl | rfl
 ·exact Sl.mk _ _
 ·exact .inr ⟨cA,rfl,by simpa using hA⟩
 ·exact Sl.mk _ _
theorem Mr(bh:UInt8)(aQ:UInt8)(aP:UInt32)(aT:UInt8)(aX:Int)(bc:UInt8)(ba:UInt32)(bf:UInt8)(bg:Int)(au:Int)(az:UInt8)(ay:UInt32)(ax:UInt8)(aw:Int)(aC:UInt8)(aA:UInt32){x:AV}{l:List Int}(hx:Sl 1 (rows l) x)(hl:l.length<2000000)(ho:qy (⟨bh,⟨aQ,aP,aT⟩,aX,⟨⟨⟨bc,ba,bf⟩,bg⟩,au⟩,⟨⟨az,ay,ax⟩,aw⟩,⟨aC,aA⟩,l⟩:bR)=false):bj env 99 [.agg [a8 bh,a8 aQ,aF aP,a8 aT,aI aX,a8 bc,aF ba,a8 bf,aI bg,aI au,a8 az,aF ay,a8 ax,aI aw,a8 aC,aF aA,x]]=some (.tup [cW,aI 8]):=by
 refine aL (fn:=Tryz.f99) (c:=sH) rfl (by kernel_rfl) (by kernel_rfl) (by kernel_rfl) (by kernel_rfl) ?_;refine vu _ _ _ fun g=>?_
 have hc:=lG bh aQ aP aT aX bc ba bf bg au az ay ax aw aC aA hx hl
 rw[ho]at hc
 clear ho
 simp[ah,ai,ae,af,ad, *,pN,hx.r,bad]
@[simp] theorem ZW(r:Ref):uE env.P r 137 (some (.v (.int .i64 13))) (some (.v (.int .i64 13)))=some (.cH r 0 13 none,[⟨1,[a8 0,a8 0,a8 0,a8 0,a8 0,a8 0,a8 0,a8 0,a8 0,a8 0,a8 0,a8 0,a8 0],true,false⟩]):=by kernel_rfl
theorem KU{o:bR}(h:qy o=true):je o.s=true:=by
 simp only[qy,Bool.and_eq_true]at h
 exact h.2.2.2.1
theorem Sa{l:List Int}(h:Ge l=true):C4 l=0∧l.length≤64 ∧∀n∈l, -2147483648≤n∧n≤2147483647:=by
 simp only[Ge,Bool.and_eq_true,decide_eq_true_eq]at h
 refine⟨by unfold C4;rw[if_neg (by omega),if_pos h.2],h.1,fun n hn=>?_⟩
 have:=List.all_eq_true.1 h.2 n hn
 simp only[pW,Bool.or_eq_true,Bool.and_eq_true,decide_eq_true_eq]at this
 omega
def vk(a:fl):List UInt8:=if iM a then List.replicate 13 0 else iC a
theorem Mu(bh:UInt8)(aQ:UInt8)(aP:UInt32)(aT:UInt8)(aX:Int)(bc:UInt8)(ba:UInt32)(bf:UInt8)(bg:Int)(au:Int)(az:UInt8)(ay:UInt32)(ax:UInt8)(aw:Int)(aC:UInt8)(aA:UInt32){x:AV}{l:List Int}(hx:Sl 1 (rows l) x)(hl:l.length<2000000)(ho:qy (⟨bh,⟨aQ,aP,aT⟩,aX,⟨⟨⟨bc,ba,bf⟩,bg⟩,au⟩,⟨⟨az,ay,ax⟩,aw⟩,⟨aC,aA⟩,l⟩:bR)=true)(h2:bh=1):bj env 99 [.agg [a8 bh,a8 aQ,aF aP,a8 aT,aI aX,a8 bc,aF ba,a8 bf,aI bg,aI au,a8 az,aF ay,a8 ax,aI aw,a8 aC,aF aA,x]]=some (.tup [.cw 1 (hU (pG (⟨bh,⟨aQ,aP,aT⟩,aX,⟨⟨⟨bc,ba,bf⟩,bg⟩,au⟩,⟨⟨az,ay,ax⟩,aw⟩,⟨aC,aA⟩,l⟩:bR)++(vk ⟨⟨az,ay,ax⟩,aw⟩++eO l))) none,aI 0]):=by
 refine aL (fn:=Tryz.f99) (c:=sH) rfl (by kernel_rfl) (by kernel_rfl) (by kernel_rfl) (by kernel_rfl) ?_;refine vu _ _ _ fun g=>?_
 have hc:=lG bh aQ aP aT aX bc ba bf bg au az ay ax aw aC aA hx hl
 rw[ho]at hc
 subst h2
 have hh:lV ⟨aQ,aP,aT⟩=true:=by simp only[qy,Bool.and_eq_true]at ho;exact ho.1
 have hsp:=KU ho
 have hs:Ed ⟨⟨bc,ba,bf⟩,bg⟩=true:=by
  have:=hsp
  simp only[je,Bool.and_eq_true]at this
  exact this.1
 obtain⟨hz,hlen,hrow⟩:(iM ⟨⟨az,ay,ax⟩,aw⟩||Ed ⟨⟨az,ay,ax⟩,aw⟩)=true∧(l.length:Int)=au∧Ge l=true:=by
  simp only[qy,Bool.and_eq_true]at ho
  have:=ho.2.2.2.2
  simp[K0,Ld]at this
  refine⟨by simpa using this.2.1,this.2.2.2.1,this.2.2.2.2⟩
 obtain⟨hE,h64,hR⟩:=Sa hrow
 have hn:=lF hsp
 simp only at hn
 have hput:=Pr hx (by omega) hR
 rw[if_pos hE]at hput
 have hrl:=sX l
 have hne:hU (eO l)≠[]:=by
  intro e
  have:=congrArg List.length e
  have h3:(hU (eO l)).length=(eO l).length:=by simp
  simp only[List.length_nil]at this
  omega
 rw[JH 1 hne]at hput
 clear ho hrow hE hR hn
 have hC:=Bv 1 ⟨aQ,aP,aT⟩ aX ⟨⟨bc,ba,bf⟩,bg⟩ au
 unfold pG
 have hCl:([(1:UInt8)]++(gP ⟨aQ,aP,aT⟩++(be 3 aX++(iC ⟨⟨bc,ba,bf⟩,bg⟩++[u8 au])))).length=24:=by simp
 generalize ([(1:UInt8)]++(gP ⟨aQ,aP,aT⟩++(be 3 aX++(iC ⟨⟨bc,ba,bf⟩,bg⟩++[u8 au]))))=C at *
 generalize eO l=R at *
 cases hza:iM ⟨⟨az,ay,ax⟩,aw⟩ with
 | true =>
  have hT:=Ju C (List.replicate 13 0) R none (by simp) (by omega) (by simp;omega)
  rw[show vk ⟨⟨az,ay,ax⟩,aw⟩=List.replicate 13 0 by unfold vk;rw[if_pos hza]]
  obtain⟨⟨⟨rfl,rfl⟩,rfl⟩,rfl⟩:((az=0∧ay=0)∧ax=0)∧aw=0:=by simpa [iM] using hza
  have hr13:hU (List.replicate 13 0)=[a8 0,a8 0,a8 0,a8 0,a8 0,a8 0,a8 0,a8 0,a8 0,a8 0,a8 0,a8 0,a8 0]:=rfl
  rw[hr13]at hT
  generalize hU (C++(List.replicate 13 0++R))=W at *
  clear hza hz hlen
  simp[ah,ai,ae,af,ad, *,pN,hx.r,bad,fp,eN,mf,gb]
 | false =>
  rw[hza,Bool.false_or]at hz
  have hT:=Ju C (iC ⟨⟨az,ay,ax⟩,aw⟩) R none (by simp) (by omega) (by simp;omega)
  rw[show vk ⟨⟨az,ay,ax⟩,aw⟩=iC ⟨⟨az,ay,ax⟩,aw⟩ by unfold vk;rw[if_neg (by rw[hza];decide)]]
  generalize hU (C++(iC ⟨⟨az,ay,ax⟩,aw⟩++R))=W at *
  have hnz:(decide (az=0)&&decide (ay=0)&&decide (ax=0)&&decide (aw=0))=false:=hza
  clear hza hlen
  simp[ah,ai,ae,af,ad, *,pN,hx.r,bad,fp,eN,mf,gb]
end Go.Proofs.YtdbiffjdomokfaaGreat
