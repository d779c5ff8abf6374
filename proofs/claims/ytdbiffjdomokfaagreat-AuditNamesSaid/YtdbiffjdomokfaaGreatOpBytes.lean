/-
  An operation's bytes: what op.Put answers. No statement of a seat is proved here.
-/
import Derived.Test.YtdbiffjdomokfaaGreatCatFns
import Derived.Test.YtdbiffjdomokfaaGreatMOpFns
set_option linter.unusedVariables false
set_option linter.unusedSimpArgs false
set_option linter.unusedSectionVars false
set_option linter.unnecessarySimpa false
set_option maxRecDepth 100000
namespace Go.Proofs.YtdbiffjdomokfaaGreat
open Go.Ab
attribute [local simp] bK bw bo bM bL dc kS bU bx bH dJ dI cp bX bh cC List.take_of_length_le
def Yx(z:Nat)(zz:AV)(H:ab)(r:Ref)(n:Nat)(ws:List (Nat × AV))(refs:List Ref):dq:=match fJ (List.replicate n zz) ws with
 | some es=>some (.cG r 0 n (some n),(r,some ⟨z,es,true,false⟩) :: cy H refs)
 | none=>none
theorem Kf{P:Program}{draw:Bool}{t:TypeId}(hT:m4 P t=true)(H:ab)(d tt gn:Nat)(n:Nat)(ps:List (Nat × AV))(hsz:n * kO P t≤16777216)(hv:(eH H.get ps).isSome=true)
 (hc:((eH H.get ps).getD []).all (fun p=>p.2.cells.length == kO P t&&p.2.cells.all AV.one)=true) (hf:(fJ (List.replicate n (ij P t)) ((eH H.get ps).getD [])).isSome=true) (hfz:gN H.get (ca H.get (ps.map (·.2)))=false) :
 eO P draw true H ⟨d,tt,gn,0⟩ t n (some ps)=Yx (kO P t) (ij P t) H ⟨d,tt,gn,0⟩ n ((eH H.get ps).getD []) (ca H.get (ps.map (·.2))):=by
 obtain⟨ws,hw⟩:=Option.isSome_iff_exists.1 hv
 rw[hw,Option.getD_some]at hc hf ⊢
 obtain⟨es,hf⟩:=Option.isSome_iff_exists.1 hf
 unfold m4 at hT
 obtain⟨e,zz,h1,h2,h3,h4,h5,h6,h7,h8⟩:=iU hT
 have hz':ij P t=zz:=by unfold ij;rw[h1,Option.bind_some,h4];rfl
 rw[hz']at hf ⊢
 have hmk:mkSlice P H.get t n ps=some ⟨kO P t,es,true,false⟩:=by
  simp only[mkSlice,h1,hw,h4,h2]
  rw[if_pos ⟨Nat.pos_of_ne_zero h7,hsz,h5,h6,by simpa using hc⟩,hf]
  rfl
 have hq:fj P draw H.get ⟨d,tt,gn,0⟩ t n (some ps)=none:=by
  simp only[fj,hfz,Bool.false_eq_true,if_false]
 unfold eO Yx
 rw[hq,hf]
 simp only[bn,zw,cond_true,gO,hmk,Option.map_some]
attribute [local simp] Kf Yx eH
def o7(o:bQ):List UInt8:=[o.kind]++(gy o.h++(be 3 o.serial++(ia o.s.f++[u8 o.s.many])))
theorem YB(n:Int):be 3 n=[u8 (n / 65536),u8 (n / 256),u8 n]:=by simp[Eu]
theorem Au(bg:UInt8)(h:zU)(aW:Int)(f:eY)(au:Int):bj env 120 [.cm 1 [.cm 1 [a8 bg] (some 1),.cm 1 (gJ (gy h)) none,.cm 1 [a8 (u8 (aW / 65536)),a8 (u8 (aW / 256)),a8 (u8 aW)] (some 3),.cm 1 (gJ (ia f)) none,.cm 1 [a8 (u8 au)] (some 1)] (some 5)] =
 some (.fsl 1 (gJ ([bg]++(gy h++(be 3 aW++(ia f++[u8 au]))))) none):=by
 have e:iR [([bg],AV.cm 1 [a8 bg] (some 1)),(gy h,.cm 1 (gJ (gy h)) none),(be 3 aW,.cm 1 [a8 (u8 (aW / 65536)),a8 (u8 (aW / 256)),a8 (u8 aW)] (some 3)),(ia f,.cm 1 (gJ (ia f)) none),([u8 au],.cm 1 [a8 (u8 au)] (some 1))]=[bg]++(gy h++(be 3 aW++(ia f++[u8 au]))):=by
  simp only[iR,List.flatMap_cons,List.flatMap_nil,List.append_nil]
 rw[←e]
 refine Fa (ps:=[([bg],AV.cm 1 [a8 bg] (some 1)),(gy h,.cm 1 (gJ (gy h)) none),(be 3 aW,.cm 1 [a8 (u8 (aW / 65536)),a8 (u8 (aW / 256)),a8 (u8 aW)] (some 3)),(ia f,.cm 1 (gJ (ia f)) none),([u8 au],.cm 1 [a8 (u8 au)] (some 1))]) (.inr ⟨some 5,rfl,by simp⟩) ?_ (by simp) (by rw[e];simp) (by rw[e];simp)
 intro p hp
 simp only[List.mem_cons,List.not_mem_nil,or_false]at hp
 rcases hp with rfl | rfl | rfl | rfl | rfl
 ·exact .inr ⟨some 1,rfl,by simp⟩
 ·exact Sl.mk _ _
 ·exact .inr ⟨some 3,by rw[YB];rfl,by simp⟩
 ·exact Sl.mk _ _
 ·exact .inr ⟨some 1,rfl,by simp⟩
theorem KW(bg:UInt8)(aP:UInt8)(aO:UInt32)(aT:UInt8)(aW:Int)(ba:UInt8)(aZ:UInt32)(bc:UInt8)(bf:Int)(au:Int)(az:UInt8)(ay:UInt32)(ax:UInt8)(aw:Int)(aC:UInt8)(aA:UInt32){x:AV}{l:List Int}(hx:Sl 1 (rows l) x)(hl:l.length<2000000)(ho:pW (⟨bg,⟨aP,aO,aT⟩,aW,⟨⟨⟨ba,aZ,bc⟩,bf⟩,au⟩,⟨⟨az,ay,ax⟩,aw⟩,⟨aC,aA⟩,l⟩:bQ)=true)(h2:bg=2):bj env 99 [.agg [a8 bg,a8 aP,aF aO,a8 aT,aI aW,a8 ba,aF aZ,a8 bc,aI bf,aI au,a8 az,aF ay,a8 ax,aI aw,a8 aC,aF aA,x]]=some (.tup [.cm 1 (gJ (o7 (⟨bg,⟨aP,aO,aT⟩,aW,⟨⟨⟨ba,aZ,bc⟩,bf⟩,au⟩,⟨⟨az,ay,ax⟩,aw⟩,⟨aC,aA⟩,l⟩:bQ))) none,aI 0]):=by
 refine aJ (fn:=Tryz.f99) (c:=rM) rfl (by kernel_rfl) (by kernel_rfl) (by kernel_rfl) (by kernel_rfl) ?_;refine uy _ _ _ fun g=>?_
 have hc:=kV bg aP aO aT aW ba aZ bc bf au az ay ax aw aC aA hx hl
 rw[ho]at hc
 have hh:mm ⟨aP,aO,aT⟩=true:=by simp only[pW,Bool.and_eq_true]at ho;exact ho.1
 have hs:C9 ⟨⟨ba,aZ,bc⟩,bf⟩=true:=by
  simp only[pW,Bool.and_eq_true]at ho
  have:=ho.2.2.2.1
  simp only[iO,Bool.and_eq_true]at this
  exact this.1
 clear ho
 subst h2
 have hC:=Au 2 ⟨aP,aO,aT⟩ aW ⟨⟨ba,aZ,bc⟩,bf⟩ au
 unfold o7
 simp[ah,ai,ae,af,ad, *,pf,hx.r,bad,eZ,eC]
theorem KV(bg:UInt8)(aP:UInt8)(aO:UInt32)(aT:UInt8)(aW:Int)(ba:UInt8)(aZ:UInt32)(bc:UInt8)(bf:Int)(au:Int)(az:UInt8)(ay:UInt32)(ax:UInt8)(aw:Int)(aC:UInt8)(aA:UInt32){x:AV}{l:List Int}(hx:Sl 1 (rows l) x)(hl:l.length<2000000)(ho:pW (⟨bg,⟨aP,aO,aT⟩,aW,⟨⟨⟨ba,aZ,bc⟩,bf⟩,au⟩,⟨⟨az,ay,ax⟩,aw⟩,⟨aC,aA⟩,l⟩:bQ)=true)(h2:bg=3):bj env 99 [.agg [a8 bg,a8 aP,aF aO,a8 aT,aI aW,a8 ba,aF aZ,a8 bc,aI bf,aI au,a8 az,aF ay,a8 ax,aI aw,a8 aC,aF aA,x]]=some (.tup [.cm 1 (gJ (o7 (⟨bg,⟨aP,aO,aT⟩,aW,⟨⟨⟨ba,aZ,bc⟩,bf⟩,au⟩,⟨⟨az,ay,ax⟩,aw⟩,⟨aC,aA⟩,l⟩:bQ)++(aC :: be 4 aA.toNat))) none,aI 0]):=by
 refine aJ (fn:=Tryz.f99) (c:=rM) rfl (by kernel_rfl) (by kernel_rfl) (by kernel_rfl) (by kernel_rfl) ?_;refine uy _ _ _ fun g=>?_
 have hc:=kV bg aP aO aT aW ba aZ bc bf au az ay ax aw aC aA hx hl
 rw[ho]at hc
 subst h2
 have hh:mm ⟨aP,aO,aT⟩=true:=by simp only[pW,Bool.and_eq_true]at ho;exact ho.1
 have hs:C9 ⟨⟨ba,aZ,bc⟩,bf⟩=true:=by
  simp only[pW,Bool.and_eq_true]at ho
  have:=ho.2.2.2.1
  simp only[iO,Bool.and_eq_true]at this
  exact this.1
 have h3:mm ⟨aC,aA,0⟩=true:=by
  simp only[pW,Bool.and_eq_true]at ho
  have:=ho.2.2.2.2
  simp only[JJ,Js]at this
  simp at this
  simp[mm,this]
 clear ho
 have hC:=Au 3 ⟨aP,aO,aT⟩ aW ⟨⟨ba,aZ,bc⟩,bf⟩ au
 unfold o7
 have hb:gy ⟨aC,aA,0⟩=aC :: (be 4 aA.toNat++[0]):=rfl
 have hlen:(gJ ([(3:UInt8)]++(gy ⟨aP,aO,aT⟩++(be 3 aW++(ia ⟨⟨ba,aZ,bc⟩,bf⟩++[u8 au]))))).length=24:=by simp
 have hput:=E5 aC aA 0
 rw[if_pos h3,hb,HQ]at hput
 rw[HQ]
 rw[show gJ (([(3:UInt8)]++(gy ⟨aP,aO,aT⟩++(be 3 aW++(ia ⟨⟨ba,aZ,bc⟩,bf⟩++[u8 au]))))++[aC,u8 (↑aA.toNat / 16777216),u8 (↑aA.toNat / 65536),u8 (↑aA.toNat / 256),u8 ↑aA.toNat])=gJ ([(3:UInt8)]++(gy ⟨aP,aO,aT⟩++(be 3 aW++(ia ⟨⟨ba,aZ,bc⟩,bf⟩++[u8 au]))))++[a8 aC,a8 (u8 (↑aA.toNat / 16777216)),a8 (u8 (↑aA.toNat / 65536)),a8 (u8 (↑aA.toNat / 256)),a8 (u8 ↑aA.toNat)] from List.map_append ..]
 have hne:gJ ([(3:UInt8)]++(gy ⟨aP,aO,aT⟩++(be 3 aW++(ia ⟨⟨ba,aZ,bc⟩,bf⟩++[u8 au]))))≠[]:=by intro e;rw[e]at hlen;cases hlen
 generalize gJ ([(3:UInt8)]++(gy ⟨aP,aO,aT⟩++(be 3 aW++(ia ⟨⟨ba,aZ,bc⟩,bf⟩++[u8 au]))))=C at *
 clear h3 hb
 simp[ah,ai,ae,af,ad, *,pf,hx.r,bad,eZ,eC]
 rfl
theorem Ib(C A R:List UInt8)(cA:Option Nat)(hA:A.length≤cA.getD A.length)(h0:0<C.length)(h1:C.length+A.length+R.length<1000000):bj env 120 [.cm 1 [.cm 1 (gJ C) none,.cm 1 (gJ A) cA,.cm 1 (gJ R) none] (some 3)]=some (.fsl 1 (gJ (C++(A++R))) none):=by
 have e:iR [(C,AV.cm 1 (gJ C) none),(A,.cm 1 (gJ A) cA),(R,.cm 1 (gJ R) none)]=C++(A++R):=by
  simp only[iR,List.flatMap_cons,List.flatMap_nil,List.append_nil]
 rw[←e]
 refine Fa (ps:=[(C,AV.cm 1 (gJ C) none),(A,.cm 1 (gJ A) cA),(R,.cm 1 (gJ R) none)]) (.inr ⟨some 3,rfl,by simp⟩) ?_ (by simp) (by rw[e];simp;omega) (by rw[e];simp;omega)
 intro p hp
 simp only[List.mem_cons,List.not_mem_nil,or_false]at hp
 rcases hp with rfl | rfl | rfl
 ·exact Sl.mk _ _
 ·exact .inr ⟨cA,rfl,by simpa using hA⟩
 ·exact Sl.mk _ _
theorem KU(bg:UInt8)(aP:UInt8)(aO:UInt32)(aT:UInt8)(aW:Int)(ba:UInt8)(aZ:UInt32)(bc:UInt8)(bf:Int)(au:Int)(az:UInt8)(ay:UInt32)(ax:UInt8)(aw:Int)(aC:UInt8)(aA:UInt32){x:AV}{l:List Int}(hx:Sl 1 (rows l) x)(hl:l.length<2000000)(ho:pW (⟨bg,⟨aP,aO,aT⟩,aW,⟨⟨⟨ba,aZ,bc⟩,bf⟩,au⟩,⟨⟨az,ay,ax⟩,aw⟩,⟨aC,aA⟩,l⟩:bQ)=false):bj env 99 [.agg [a8 bg,a8 aP,aF aO,a8 aT,aI aW,a8 ba,aF aZ,a8 bc,aI bf,aI au,a8 az,aF ay,a8 ax,aI aw,a8 aC,aF aA,x]]=some (.tup [dg,aI 8]):=by
 refine aJ (fn:=Tryz.f99) (c:=rM) rfl (by kernel_rfl) (by kernel_rfl) (by kernel_rfl) (by kernel_rfl) ?_;refine uy _ _ _ fun g=>?_
 have hc:=kV bg aP aO aT aW ba aZ bc bf au az ay ax aw aC aA hx hl
 rw[ho]at hc
 clear ho
 simp[ah,ai,ae,af,ad, *,pf,hx.r,bad]
@[simp] theorem Yh(r:Ref):tz env.P r 137 (some (.v (.int .i64 13))) (some (.v (.int .i64 13)))=some (.cG r 0 13 none,[⟨1,[a8 0,a8 0,a8 0,a8 0,a8 0,a8 0,a8 0,a8 0,a8 0,a8 0,a8 0,a8 0,a8 0],true,false⟩]):=by kernel_rfl
theorem JD{o:bQ}(h:pW o=true):iO o.s=true:=by
 simp only[pW,Bool.and_eq_true]at h
 exact h.2.2.2.1
theorem Qi{l:List Int}(h:Fe l=true):B3 l=0∧l.length≤64 ∧∀n∈l, -2147483648≤n∧n≤2147483647:=by
 simp only[Fe,Bool.and_eq_true,decide_eq_true_eq]at h
 refine⟨by unfold B3;rw[if_neg (by omega),if_pos h.2],h.1,fun n hn=>?_⟩
 have:=List.all_eq_true.1 h.2 n hn
 simp only[pt,Bool.or_eq_true,Bool.and_eq_true,decide_eq_true_eq]at this
 omega
def ui(a:eY):List UInt8:=if iv a then List.replicate 13 0 else ia a
theorem KX(bg:UInt8)(aP:UInt8)(aO:UInt32)(aT:UInt8)(aW:Int)(ba:UInt8)(aZ:UInt32)(bc:UInt8)(bf:Int)(au:Int)(az:UInt8)(ay:UInt32)(ax:UInt8)(aw:Int)(aC:UInt8)(aA:UInt32){x:AV}{l:List Int}(hx:Sl 1 (rows l) x)(hl:l.length<2000000)(ho:pW (⟨bg,⟨aP,aO,aT⟩,aW,⟨⟨⟨ba,aZ,bc⟩,bf⟩,au⟩,⟨⟨az,ay,ax⟩,aw⟩,⟨aC,aA⟩,l⟩:bQ)=true)(h2:bg=1):bj env 99 [.agg [a8 bg,a8 aP,aF aO,a8 aT,aI aW,a8 ba,aF aZ,a8 bc,aI bf,aI au,a8 az,aF ay,a8 ax,aI aw,a8 aC,aF aA,x]]=some (.tup [.cm 1 (gJ (o7 (⟨bg,⟨aP,aO,aT⟩,aW,⟨⟨⟨ba,aZ,bc⟩,bf⟩,au⟩,⟨⟨az,ay,ax⟩,aw⟩,⟨aC,aA⟩,l⟩:bQ)++(ui ⟨⟨az,ay,ax⟩,aw⟩++eD l))) none,aI 0]):=by
 refine aJ (fn:=Tryz.f99) (c:=rM) rfl (by kernel_rfl) (by kernel_rfl) (by kernel_rfl) (by kernel_rfl) ?_;refine uy _ _ _ fun g=>?_
 have hc:=kV bg aP aO aT aW ba aZ bc bf au az ay ax aw aC aA hx hl
 rw[ho]at hc
 subst h2
 have hh:mm ⟨aP,aO,aT⟩=true:=by simp only[pW,Bool.and_eq_true]at ho;exact ho.1
 have hsp:=JD ho
 have hs:C9 ⟨⟨ba,aZ,bc⟩,bf⟩=true:=by
  have:=hsp
  simp only[iO,Bool.and_eq_true]at this
  exact this.1
 obtain⟨hz,hlen,hrow⟩:(iv ⟨⟨az,ay,ax⟩,aw⟩||C9 ⟨⟨az,ay,ax⟩,aw⟩)=true∧(l.length:Int)=au∧Fe l=true:=by
  simp only[pW,Bool.and_eq_true]at ho
  have:=ho.2.2.2.2
  simp[JJ,JW]at this
  refine⟨by simpa using this.2.1,this.2.2.2.1,this.2.2.2.2⟩
 obtain⟨hE,h64,hR⟩:=Qi hrow
 have hn:=kU hsp
 simp only at hn
 have hput:=NC hx (by omega) hR
 rw[if_pos hE]at hput
 have hrl:=r6 l
 have hne:gJ (eD l)≠[]:=by
  intro e
  have:=congrArg List.length e
  have h3:(gJ (eD l)).length=(eD l).length:=by simp
  simp only[List.length_nil]at this
  omega
 rw[Iq 1 hne]at hput
 clear ho hrow hE hR hn
 have hC:=Au 1 ⟨aP,aO,aT⟩ aW ⟨⟨ba,aZ,bc⟩,bf⟩ au
 unfold o7
 have hCl:([(1:UInt8)]++(gy ⟨aP,aO,aT⟩++(be 3 aW++(ia ⟨⟨ba,aZ,bc⟩,bf⟩++[u8 au])))).length=24:=by simp
 generalize ([(1:UInt8)]++(gy ⟨aP,aO,aT⟩++(be 3 aW++(ia ⟨⟨ba,aZ,bc⟩,bf⟩++[u8 au]))))=C at *
 generalize eD l=R at *
 cases hza:iv ⟨⟨az,ay,ax⟩,aw⟩ with
 | true =>
  have hT:=Ib C (List.replicate 13 0) R none (by simp) (by omega) (by simp;omega)
  rw[show ui ⟨⟨az,ay,ax⟩,aw⟩=List.replicate 13 0 by unfold ui;rw[if_pos hza]]
  obtain⟨⟨⟨rfl,rfl⟩,rfl⟩,rfl⟩:((az=0∧ay=0)∧ax=0)∧aw=0:=by simpa [iv] using hza
  have hr13:gJ (List.replicate 13 0)=[a8 0,a8 0,a8 0,a8 0,a8 0,a8 0,a8 0,a8 0,a8 0,a8 0,a8 0,a8 0,a8 0]:=rfl
  rw[hr13]at hT
  generalize gJ (C++(List.replicate 13 0++R))=W at *
  clear hza hz hlen
  simp[ah,ai,ae,af,ad, *,pf,hx.r,bad,eZ,eC,lC,fL]
 | false =>
  rw[hza,Bool.false_or]at hz
  have hT:=Ib C (ia ⟨⟨az,ay,ax⟩,aw⟩) R none (by simp) (by omega) (by simp;omega)
  rw[show ui ⟨⟨az,ay,ax⟩,aw⟩=ia ⟨⟨az,ay,ax⟩,aw⟩ by unfold ui;rw[if_neg (by rw[hza];decide)]]
  generalize gJ (C++(ia ⟨⟨az,ay,ax⟩,aw⟩++R))=W at *
  have hnz:(decide (az=0)&&decide (ay=0)&&decide (ax=0)&&decide (aw=0))=false:=hza
  clear hza hlen
  simp[ah,ai,ae,af,ad, *,pf,hx.r,bad,eZ,eC,lC,fL]
end Go.Proofs.YtdbiffjdomokfaaGreat
