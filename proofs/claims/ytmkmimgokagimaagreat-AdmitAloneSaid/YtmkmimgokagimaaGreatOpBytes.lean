/-
  An operation's bytes: what op.Put answers. No statement of a seat is proved here.
-/
import Derived.Test.YtmkmimgokagimaaGreatCatFns
import Derived.Test.YtmkmimgokagimaaGreatMOpFns
set_option linter.unusedVariables false
set_option linter.unusedSimpArgs false
set_option linter.unusedSectionVars false
set_option linter.unnecessarySimpa false
set_option maxRecDepth 100000
namespace Go.Proofs.YtmkmimgokagimaaGreat
open Go.Ab
attribute [local simp] bJ bw bt bG bF cL kN bX bx bD cR cQ cr bY bh ct List.take_of_length_le
def bsO(z:Nat)(zz:AV)(H:ad)(r:Ref)(n:Nat)(ws:List (Nat × AV))(refs:List Ref):dY:=match gm (List.replicate n zz) ws with
 | some es=>some (.cP r 0 n (some n),(r,some ⟨z,es,true,false⟩) :: cK H refs)
 | none=>none
theorem CW{P:Program}{draw:Bool}{t:TypeId}(hT:pf P t=true)(H:ad)(d tt gn:Nat)(n:Nat)(ps:List (Nat × AV))(hsz:n * mC P t≤16777216)(hv:(eN H.get ps).isSome=true)
 (hc:((eN H.get ps).getD []).all (fun p=>p.2.cells.length == mC P t&&p.2.cells.all AV.one)=true) (hf:(gm (List.replicate n (iY P t)) ((eN H.get ps).getD [])).isSome=true) (hfz:iF H.get (cD H.get (ps.map (·.2)))=false) :
 fu P draw true H ⟨d,tt,gn,0⟩ t n (some ps)=bsO (mC P t) (iY P t) H ⟨d,tt,gn,0⟩ n ((eN H.get ps).getD []) (cD H.get (ps.map (·.2))):=by
 obtain⟨ws,hw⟩:=Option.isSome_iff_exists.1 hv
 rw[hw,Option.getD_some]at hc hf ⊢
 obtain⟨es,hf⟩:=Option.isSome_iff_exists.1 hf
 unfold pf at hT
 obtain⟨e,zz,h1,h2,h3,h4,h5,h6,h7,h8⟩:=jF hT
 have hz':iY P t=zz:=by unfold iY;rw[h1,Option.bind_some,h4];rfl
 rw[hz']at hf ⊢
 have hmk:mkSlice P H.get t n ps=some ⟨mC P t,es,true,false⟩:=by
  simp only[mkSlice,h1,hw,h4,h2]
  rw[if_pos ⟨Nat.pos_of_ne_zero h7,hsz,h5,h6,by simpa using hc⟩,hf]
  rfl
 have hq:fJ P draw H.get ⟨d,tt,gn,0⟩ t n (some ps)=none:=by
  simp only[fJ,hfz,Bool.false_eq_true,if_false]
 unfold fu bsO
 rw[hq,hf]
 simp only[bg,DJ,cond_true,iG,hmk,Option.map_some]
attribute [local simp] CW bsO eN
def rf(o:bz):List UInt8:=[o.kind]++(il o.h++(be 3 o.serial++(iU o.s.f++[u8 o.s.many])))
theorem aem(n:Int):be 3 n=[u8 (n / 65536),u8 (n / 256),u8 n]:=by simp[Jc]
theorem ES(ba:UInt8)(h:nY)(aV:Int)(f:eJ)(an:Int):bj env 209 [.ck 1 [.ck 1 [a8 ba] (some 1),.ck 1 (iB (il h)) none,.ck 1 [a8 (u8 (aV / 65536)),a8 (u8 (aV / 256)),a8 (u8 aV)] (some 3),.ck 1 (iB (iU f)) none,.ck 1 [a8 (u8 an)] (some 1)] (some 5)] =
 some (.fsl 1 (iB ([ba]++(il h++(be 3 aV++(iU f++[u8 an]))))) none):=by
 have e:jD [([ba],AV.ck 1 [a8 ba] (some 1)),(il h,.ck 1 (iB (il h)) none),(be 3 aV,.ck 1 [a8 (u8 (aV / 65536)),a8 (u8 (aV / 256)),a8 (u8 aV)] (some 3)),(iU f,.ck 1 (iB (iU f)) none),([u8 an],.ck 1 [a8 (u8 an)] (some 1))]=[ba]++(il h++(be 3 aV++(iU f++[u8 an]))):=by
  simp only[jD,List.flatMap_cons,List.flatMap_nil,List.append_nil]
 rw[←e]
 refine JQ (ps:=[([ba],AV.ck 1 [a8 ba] (some 1)),(il h,.ck 1 (iB (il h)) none),(be 3 aV,.ck 1 [a8 (u8 (aV / 65536)),a8 (u8 (aV / 256)),a8 (u8 aV)] (some 3)),(iU f,.ck 1 (iB (iU f)) none),([u8 an],.ck 1 [a8 (u8 an)] (some 1))]) (.inr ⟨some 5,rfl,by simp⟩) ?_ (by simp) (by rw[e];simp) (by rw[e];simp)
 intro p hp
 simp only[List.mem_cons,List.not_mem_nil,or_false]at hp
 rcases hp with rfl | rfl | rfl | rfl | rfl
 ·exact .inr ⟨some 1,rfl,by simp⟩
 ·exact Sl.mk _ _
 ·exact .inr ⟨some 3,by rw[aem];rfl,by simp⟩
 ·exact Sl.mk _ _
 ·exact .inr ⟨some 1,rfl,by simp⟩
theorem Qr(ba:UInt8)(aO:UInt8)(aN:UInt32)(aT:UInt8)(aV:Int)(aX:UInt8)(aW:UInt32)(aY:UInt8)(aZ:Int)(an:Int)(ay:UInt8)(ax:UInt32)(aw:UInt8)(au:Int)(aA:UInt8)(az:UInt32){x:AV}{l:List Int}(hx:Sl 1 (rows l) x)(hl:l.length<2000000)(ho:la (⟨ba,⟨aO,aN,aT⟩,aV,⟨⟨⟨aX,aW,aY⟩,aZ⟩,an⟩,⟨⟨ay,ax,aw⟩,au⟩,⟨aA,az⟩,l⟩:bz)=true)(h2:ba=2):bj env 163 [.agg [a8 ba,a8 aO,aF aN,a8 aT,aI aV,a8 aX,aF aW,a8 aY,aI aZ,aI an,a8 ay,aF ax,a8 aw,aI au,a8 aA,aF az,x]]=some (.tup [.ck 1 (iB (rf (⟨ba,⟨aO,aN,aT⟩,aV,⟨⟨⟨aX,aW,aY⟩,aZ⟩,an⟩,⟨⟨ay,ax,aw⟩,au⟩,⟨aA,az⟩,l⟩:bz))) none,aI 0]):=by
 refine aG (fn:=Tryz.f163) (c:=vO) rfl (by kernel_rfl) (by kernel_rfl) (by kernel_rfl) (by kernel_rfl) ?_;refine yL _ _ _ fun g=>?_
 have hc:=ko ba aO aN aT aV aX aW aY aZ an ay ax aw au aA az hx hl
 rw[ho]at hc
 have hh:fL ⟨aO,aN,aT⟩=true:=by simp only[la,Bool.and_eq_true]at ho;exact ho.1
 have hs:G0 ⟨⟨aX,aW,aY⟩,aZ⟩=true:=by
  simp only[la,Bool.and_eq_true]at ho
  have:=ho.2.2.2.1
  simp only[jz,Bool.and_eq_true]at this
  exact this.1
 clear ho
 subst h2
 have hC:=ES 2 ⟨aO,aN,aT⟩ aV ⟨⟨aX,aW,aY⟩,aZ⟩ an
 unfold rf
 simp[ah,ai,ae,af,ab, *,rE,hx.r,bad,fB,eX]
theorem Qq(ba:UInt8)(aO:UInt8)(aN:UInt32)(aT:UInt8)(aV:Int)(aX:UInt8)(aW:UInt32)(aY:UInt8)(aZ:Int)(an:Int)(ay:UInt8)(ax:UInt32)(aw:UInt8)(au:Int)(aA:UInt8)(az:UInt32){x:AV}{l:List Int}(hx:Sl 1 (rows l) x)(hl:l.length<2000000)(ho:la (⟨ba,⟨aO,aN,aT⟩,aV,⟨⟨⟨aX,aW,aY⟩,aZ⟩,an⟩,⟨⟨ay,ax,aw⟩,au⟩,⟨aA,az⟩,l⟩:bz)=true)(h2:ba=3):bj env 163 [.agg [a8 ba,a8 aO,aF aN,a8 aT,aI aV,a8 aX,aF aW,a8 aY,aI aZ,aI an,a8 ay,aF ax,a8 aw,aI au,a8 aA,aF az,x]]=some (.tup [.ck 1 (iB (rf (⟨ba,⟨aO,aN,aT⟩,aV,⟨⟨⟨aX,aW,aY⟩,aZ⟩,an⟩,⟨⟨ay,ax,aw⟩,au⟩,⟨aA,az⟩,l⟩:bz)++(aA :: be 4 az.toNat))) none,aI 0]):=by
 refine aG (fn:=Tryz.f163) (c:=vO) rfl (by kernel_rfl) (by kernel_rfl) (by kernel_rfl) (by kernel_rfl) ?_;refine yL _ _ _ fun g=>?_
 have hc:=ko ba aO aN aT aV aX aW aY aZ an ay ax aw au aA az hx hl
 rw[ho]at hc
 subst h2
 have hh:fL ⟨aO,aN,aT⟩=true:=by simp only[la,Bool.and_eq_true]at ho;exact ho.1
 have hs:G0 ⟨⟨aX,aW,aY⟩,aZ⟩=true:=by
  simp only[la,Bool.and_eq_true]at ho
  have:=ho.2.2.2.1
  simp only[jz,Bool.and_eq_true]at this
  exact this.1
 have h3:fL ⟨aA,az,0⟩=true:=by
  simp only[la,Bool.and_eq_true]at ho
  have:=ho.2.2.2.2
  simp only[Kl,Ow]at this
  simp at this
  simp[fL,this]
 clear ho
 have hC:=ES 3 ⟨aO,aN,aT⟩ aV ⟨⟨aX,aW,aY⟩,aZ⟩ an
 unfold rf
 have hb:il ⟨aA,az,0⟩=aA :: (be 4 az.toNat++[0]):=rfl
 have hlen:(iB ([(3:UInt8)]++(il ⟨aO,aN,aT⟩++(be 3 aV++(iU ⟨⟨aX,aW,aY⟩,aZ⟩++[u8 an]))))).length=24:=by simp
 have hput:=JK aA az 0
 rw[if_pos h3,hb,MQ]at hput
 rw[MQ]
 rw[show iB (([(3:UInt8)]++(il ⟨aO,aN,aT⟩++(be 3 aV++(iU ⟨⟨aX,aW,aY⟩,aZ⟩++[u8 an]))))++[aA,u8 (↑az.toNat / 16777216),u8 (↑az.toNat / 65536),u8 (↑az.toNat / 256),u8 ↑az.toNat])=iB ([(3:UInt8)]++(il ⟨aO,aN,aT⟩++(be 3 aV++(iU ⟨⟨aX,aW,aY⟩,aZ⟩++[u8 an]))))++[a8 aA,a8 (u8 (↑az.toNat / 16777216)),a8 (u8 (↑az.toNat / 65536)),a8 (u8 (↑az.toNat / 256)),a8 (u8 ↑az.toNat)] from List.map_append ..]
 have hne:iB ([(3:UInt8)]++(il ⟨aO,aN,aT⟩++(be 3 aV++(iU ⟨⟨aX,aW,aY⟩,aZ⟩++[u8 an]))))≠[]:=by intro e;rw[e]at hlen;cases hlen
 generalize iB ([(3:UInt8)]++(il ⟨aO,aN,aT⟩++(be 3 aV++(iU ⟨⟨aX,aW,aY⟩,aZ⟩++[u8 an]))))=C at *
 clear h3 hb
 simp[ah,ai,ae,af,ab, *,rE,hx.r,bad,fB,eX]
 rfl
theorem M7(C A R:List UInt8)(cA:Option Nat)(hA:A.length≤cA.getD A.length)(h0:0<C.length)(h1:C.length+A.length+R.length<1000000):bj env 209 [.ck 1 [.ck 1 (iB C) none,.ck 1 (iB A) cA,.ck 1 (iB R) none] (some 3)]=some (.fsl 1 (iB (C++(A++R))) none):=by
 have e:jD [(C,AV.ck 1 (iB C) none),(A,.ck 1 (iB A) cA),(R,.ck 1 (iB R) none)]=C++(A++R):=by
  simp only[jD,List.flatMap_cons,List.flatMap_nil,List.append_nil]
 rw[←e]
 refine JQ (ps:=[(C,AV.ck 1 (iB C) none),(A,.ck 1 (iB A) cA),(R,.ck 1 (iB R) none)]) (.inr ⟨some 3,rfl,by simp⟩) ?_ (by simp) (by rw[e];simp;omega) (by rw[e];simp;omega)
 intro p hp
 simp only[List.mem_cons,List.not_mem_nil,or_false]at hp
 rcases hp with rfl | rfl | rfl
 ·exact Sl.mk _ _
 ·exact .inr ⟨cA,rfl,by simpa using hA⟩
 ·exact Sl.mk _ _
theorem Qp(ba:UInt8)(aO:UInt8)(aN:UInt32)(aT:UInt8)(aV:Int)(aX:UInt8)(aW:UInt32)(aY:UInt8)(aZ:Int)(an:Int)(ay:UInt8)(ax:UInt32)(aw:UInt8)(au:Int)(aA:UInt8)(az:UInt32){x:AV}{l:List Int}(hx:Sl 1 (rows l) x)(hl:l.length<2000000)(ho:la (⟨ba,⟨aO,aN,aT⟩,aV,⟨⟨⟨aX,aW,aY⟩,aZ⟩,an⟩,⟨⟨ay,ax,aw⟩,au⟩,⟨aA,az⟩,l⟩:bz)=false):bj env 163 [.agg [a8 ba,a8 aO,aF aN,a8 aT,aI aV,a8 aX,aF aW,a8 aY,aI aZ,aI an,a8 ay,aF ax,a8 aw,aI au,a8 aA,aF az,x]]=some (.tup [cp,aI 8]):=by
 refine aG (fn:=Tryz.f163) (c:=vO) rfl (by kernel_rfl) (by kernel_rfl) (by kernel_rfl) (by kernel_rfl) ?_;refine yL _ _ _ fun g=>?_
 have hc:=ko ba aO aN aT aV aX aW aY aZ an ay ax aw au aA az hx hl
 rw[ho]at hc
 clear ho
 simp[ah,ai,ae,af,ab, *,rE,hx.r,bad]
@[simp] theorem ad8(r:Ref):Db env.P r 170 (some (.v (.int .i64 13))) (some (.v (.int .i64 13)))=some (.cP r 0 13 none,[⟨1,[a8 0,a8 0,a8 0,a8 0,a8 0,a8 0,a8 0,a8 0,a8 0,a8 0,a8 0,a8 0,a8 0],true,false⟩]):=by kernel_rfl
theorem OI{o:bz}(h:la o=true):jz o.s=true:=by
 simp only[la,Bool.and_eq_true]at h
 exact h.2.2.2.1
theorem VP{l:List Int}(h:JU l=true):GF l=0∧l.length≤64 ∧∀n∈l, -2147483648≤n∧n≤2147483647:=by
 simp only[JU,Bool.and_eq_true,decide_eq_true_eq]at h
 refine⟨by unfold GF;rw[if_neg (by omega),if_pos h.2],h.1,fun n hn=>?_⟩
 have:=List.all_eq_true.1 h.2 n hn
 simp only[rO,Bool.or_eq_true,Bool.and_eq_true,decide_eq_true_eq]at this
 omega
def yC(a:eJ):List UInt8:=if jd a then List.replicate 13 0 else iU a
theorem Qs(ba:UInt8)(aO:UInt8)(aN:UInt32)(aT:UInt8)(aV:Int)(aX:UInt8)(aW:UInt32)(aY:UInt8)(aZ:Int)(an:Int)(ay:UInt8)(ax:UInt32)(aw:UInt8)(au:Int)(aA:UInt8)(az:UInt32){x:AV}{l:List Int}(hx:Sl 1 (rows l) x)(hl:l.length<2000000)(ho:la (⟨ba,⟨aO,aN,aT⟩,aV,⟨⟨⟨aX,aW,aY⟩,aZ⟩,an⟩,⟨⟨ay,ax,aw⟩,au⟩,⟨aA,az⟩,l⟩:bz)=true)(h2:ba=1):bj env 163 [.agg [a8 ba,a8 aO,aF aN,a8 aT,aI aV,a8 aX,aF aW,a8 aY,aI aZ,aI an,a8 ay,aF ax,a8 aw,aI au,a8 aA,aF az,x]]=some (.tup [.ck 1 (iB (rf (⟨ba,⟨aO,aN,aT⟩,aV,⟨⟨⟨aX,aW,aY⟩,aZ⟩,an⟩,⟨⟨ay,ax,aw⟩,au⟩,⟨aA,az⟩,l⟩:bz)++(yC ⟨⟨ay,ax,aw⟩,au⟩++eY l))) none,aI 0]):=by
 refine aG (fn:=Tryz.f163) (c:=vO) rfl (by kernel_rfl) (by kernel_rfl) (by kernel_rfl) (by kernel_rfl) ?_;refine yL _ _ _ fun g=>?_
 have hc:=ko ba aO aN aT aV aX aW aY aZ an ay ax aw au aA az hx hl
 rw[ho]at hc
 subst h2
 have hh:fL ⟨aO,aN,aT⟩=true:=by simp only[la,Bool.and_eq_true]at ho;exact ho.1
 have hsp:=OI ho
 have hs:G0 ⟨⟨aX,aW,aY⟩,aZ⟩=true:=by
  have:=hsp
  simp only[jz,Bool.and_eq_true]at this
  exact this.1
 obtain⟨hz,hlen,hrow⟩:(jd ⟨⟨ay,ax,aw⟩,au⟩||G0 ⟨⟨ay,ax,aw⟩,au⟩)=true∧(l.length:Int)=an∧JU l=true:=by
  simp only[la,Bool.and_eq_true]at ho
  have:=ho.2.2.2.2
  simp[Kl,Kz]at this
  refine⟨by simpa using this.2.1,this.2.2.2.1,this.2.2.2.2⟩
 obtain⟨hE,h64,hR⟩:=VP hrow
 have hn:=kV hsp
 simp only at hn
 have hput:=SR hx (by omega) hR
 rw[if_pos hE]at hput
 have hrl:=wj l
 have hne:iB (eY l)≠[]:=by
  intro e
  have:=congrArg List.length e
  have h3:(iB (eY l)).length=(eY l).length:=by simp
  simp only[List.length_nil]at this
  omega
 rw[Nl 1 hne]at hput
 clear ho hrow hE hR hn
 have hC:=ES 1 ⟨aO,aN,aT⟩ aV ⟨⟨aX,aW,aY⟩,aZ⟩ an
 unfold rf
 have hCl:([(1:UInt8)]++(il ⟨aO,aN,aT⟩++(be 3 aV++(iU ⟨⟨aX,aW,aY⟩,aZ⟩++[u8 an])))).length=24:=by simp
 generalize ([(1:UInt8)]++(il ⟨aO,aN,aT⟩++(be 3 aV++(iU ⟨⟨aX,aW,aY⟩,aZ⟩++[u8 an]))))=C at *
 generalize eY l=R at *
 cases hza:jd ⟨⟨ay,ax,aw⟩,au⟩ with
 | true =>
  have hT:=M7 C (List.replicate 13 0) R none (by simp) (by omega) (by simp;omega)
  rw[show yC ⟨⟨ay,ax,aw⟩,au⟩=List.replicate 13 0 by unfold yC;rw[if_pos hza]]
  obtain⟨⟨⟨rfl,rfl⟩,rfl⟩,rfl⟩:((ay=0∧ax=0)∧aw=0)∧au=0:=by simpa [jd] using hza
  have hr13:iB (List.replicate 13 0)=[a8 0,a8 0,a8 0,a8 0,a8 0,a8 0,a8 0,a8 0,a8 0,a8 0,a8 0,a8 0,a8 0]:=rfl
  rw[hr13]at hT
  generalize iB (C++(List.replicate 13 0++R))=W at *
  clear hza hz hlen
  simp[ah,ai,ae,af,ab, *,rE,hx.r,bad,fB,eX,ke,eE]
 | false =>
  rw[hza,Bool.false_or]at hz
  have hT:=M7 C (iU ⟨⟨ay,ax,aw⟩,au⟩) R none (by simp) (by omega) (by simp;omega)
  rw[show yC ⟨⟨ay,ax,aw⟩,au⟩=iU ⟨⟨ay,ax,aw⟩,au⟩ by unfold yC;rw[if_neg (by rw[hza];decide)]]
  generalize iB (C++(iU ⟨⟨ay,ax,aw⟩,au⟩++R))=W at *
  have hnz:(decide (ay=0)&&decide (ax=0)&&decide (aw=0)&&decide (au=0))=false:=hza
  clear hza hlen
  simp[ah,ai,ae,af,ab, *,rE,hx.r,bad,fB,eX,ke,eE]
end Go.Proofs.YtmkmimgokagimaaGreat
