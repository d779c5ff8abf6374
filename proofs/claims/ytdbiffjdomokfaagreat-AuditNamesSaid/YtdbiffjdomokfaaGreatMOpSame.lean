/-
  Bytes copied and read: what these functions answer. No statement of a seat is proved here.
-/
import Derived.Test.YtdbiffjdomokfaaGreatOpBytes
import Derived.Test.YtdbiffjdomokfaaGreatMOpFns
set_option linter.unusedVariables false
set_option linter.unusedSimpArgs false
set_option linter.unusedSectionVars false
set_option linter.unnecessarySimpa false
set_option maxRecDepth 100000
namespace Go.Proofs.YtdbiffjdomokfaaGreat
open Go.Ab
attribute [local simp] bK bw bo bM bL dc kS bU bx bH dJ dI cp bX bh cC List.take_of_length_le
end Go.Proofs.YtdbiffjdomokfaaGreat
namespace Go.Proofs.YtdbiffjdomokfaaGreat
open Go.Ab
attribute [local simp] bK bw bo bM bL dc kS bU bx bH dJ dI cp bX bh cC List.take_of_length_le
theorem yO{f:FuncId}(hm:(env.mode f == 2)=true)(dep:Nat)(H:ab)(r:Ref)(first args captured:List AV) :
 bm env true (bj env) (bR env dep) H r (some (.fn (.func f) first captured)) args=bR env dep (.fn f) (first++args++captured) H:=by
 have h:env.mode f=2:=by simpa using hm
 simp[bm,gR,jU,bn,zw,h]
end Go.Proofs.YtdbiffjdomokfaaGreat
namespace Go.Proofs.YtdbiffjdomokfaaGreat
open Go.Ab
def oY(o:bQ):List UInt8:=o7 o++(if o.kind=1 then ui o.a++eD o.l else if o.kind=3 then o.to.lv :: be 4 o.to.cats.toNat else [])
theorem Gn(o:bQ):(o7 o).length=24:=by simp[o7]
theorem yn{o:bQ}(h:pW o=true):1≤o.serial∧o.serial<16777216∧(1≤o.s.f.n∧o.s.f.n≤1099511627776)∧1≤o.s.many∧o.s.many≤64 ∧
 ((o.kind=1∧o.to=⟨0,0⟩∧(o.a=yX∨(1≤o.a.n∧o.a.n≤1099511627776))∧(o.l.length:Int)=o.s.many∧Fe o.l=true)∨(o.kind=2∧o.to=⟨0,0⟩∧o.a=yX∧o.l=[])∨(o.kind=3∧o.a=yX∧o.l=[]∧o.to.lv≤15)):=by
 simp only[pW,Bool.and_eq_true,decide_eq_true_eq]at h
 obtain⟨hh,h1,h2,hs,hm⟩:=h
 have hn:=kU hs
 have hi:=F1 (KG hs)
 refine⟨h1,h2,hi,hn.2.1,hn.2.2.1,?_⟩
 have hz : ∀t:nw,yW t=true→t=⟨0,0⟩:=by
  rintro⟨a,b⟩ h;simp[yW]at h;rw[h.1,h.2]
 unfold JJ at hm
 split at hm
 ·rename_i k1
  simp only[JW,Bool.and_eq_true,Bool.or_eq_true,decide_eq_true_eq]at hm
  refine .inl ⟨k1,hz _ hm.1,?_,hm.2.2.2.1,hm.2.2.2.2⟩
  rcases hm.2.1 with e | e
  ·exact .inl ((xW _).1 e)
  ·exact .inr (F1 e)
 ·split at hm
  ·rename_i k2
   simp only[Mi,BF,Bool.and_eq_true,decide_eq_true_eq]at hm
   exact .inr (.inl ⟨k2,hz _ hm.1,(xW _).1 hm.2.1,hm.2.2⟩)
  ·split at hm
   ·rename_i k3
    simp only[Js,BF,Bool.and_eq_true,decide_eq_true_eq]at hm
    exact .inr (.inr ⟨k3,(xW _).1 hm.1.1,hm.1.2,hm.2⟩)
   ·cases hm
def E0(o:bQ):Nat:=if o.kind=1 then 37+4 * o.s.many.toNat else if o.kind=3 then 29 else 24
theorem HS(a:eY):(ui a).length=13:=by unfold ui;split<;>simp
theorem Fx{o:bQ}(h:pW o=true):(oY o).length=E0 o:=by
 have hp:=yn h
 unfold oY E0
 rw[List.length_append,Gn]
 rcases hp.2.2.2.2.2 with ⟨k,_,_,hl,_⟩ | ⟨k,_⟩ | ⟨k,_⟩
 ·rw[if_pos k,if_pos k,List.length_append,HS,r6];omega
 ·rw[k];rfl
 ·rw[k];simp
end Go.Proofs.YtdbiffjdomokfaaGreat
namespace Go.Proofs.YtdbiffjdomokfaaGreat
open Go.Ab
attribute [local simp] bK bw bo bM bL dc kS bU bx bH dJ dI cp bX bh cC List.take_of_length_le
theorem EZ{o:bQ}(h:pW o=true):24≤E0 o∧E0 o≤293:=by
 have hp:=yn h
 unfold E0
 split
 ·omega
 ·split<;>omega
def Qu(o:bQ):AV:=if pW o then .tup [.cm 1 (gJ (oY o)) none,aI 0] else .tup [dg,aI 8]
theorem NF(bg:UInt8)(aP:UInt8)(aO:UInt32)(aT:UInt8)(aW:Int)(ba:UInt8)(aZ:UInt32)(bc:UInt8)(bf:Int)(au:Int)(az:UInt8)(ay:UInt32)(ax:UInt8)(aw:Int)(aC:UInt8)(aA:UInt32){x:AV}{l:List Int}(hx:Sl 1 (rows l) x)(hl:l.length<2000000):bj env 99 [.agg [a8 bg,a8 aP,aF aO,a8 aT,aI aW,a8 ba,aF aZ,a8 bc,aI bf,aI au,a8 az,aF ay,a8 ax,aI aw,a8 aC,aF aA,x]]=some (Qu (⟨bg,⟨aP,aO,aT⟩,aW,⟨⟨⟨ba,aZ,bc⟩,bf⟩,au⟩,⟨⟨az,ay,ax⟩,aw⟩,⟨aC,aA⟩,l⟩:bQ)):=by
 unfold Qu
 cases ho:pW (⟨bg,⟨aP,aO,aT⟩,aW,⟨⟨⟨ba,aZ,bc⟩,bf⟩,au⟩,⟨⟨az,ay,ax⟩,aw⟩,⟨aC,aA⟩,l⟩:bQ) with
 | false=>rw[KU bg aP aO aT aW ba aZ bc bf au az ay ax aw aC aA hx hl ho];rfl
 | true =>
  have hp:=yn ho
  rw[if_pos rfl]
  unfold oY
  rcases hp.2.2.2.2.2 with ⟨hk,_⟩ | ⟨hk,_⟩ | ⟨hk,_⟩
  ·rw[KX bg aP aO aT aW ba aZ bc bf au az ay ax aw aC aA hx hl ho hk,if_pos hk]
  ·simp only at hk
   rw[KW bg aP aO aT aW ba aZ bc bf au az ay ax aw aC aA hx hl ho hk,if_neg (by simp[hk]),if_neg (by simp[hk]),List.append_nil]
  ·simp only at hk
   rw[KV bg aP aO aT aW ba aZ bc bf au az ay ax aw aC aA hx hl ho hk,if_neg (by simp[hk]),if_pos hk]
end Go.Proofs.YtdbiffjdomokfaaGreat
namespace Go.Proofs.YtdbiffjdomokfaaGreat
open Go.Ab
attribute [local simp] bK bw bo bM bL dc kS bU bx bH dJ dI cp bX bh cC List.take_of_length_le
def A9(t:Int):List Int→Nat→Int
 | [],_ => -1
 | a :: l,k=>if t=a then k else A9 t l (k+1)
theorem LZ(t:Int)(l:List Int) : ∀k:Nat,(0≤A9 t l k↔t∈l):=by
 induction l with
 | nil=>intro k;simp[A9]
 | cons a l ih =>
  intro k
  unfold A9
  by_cases h:t=a
  ·simp[h]
  ·rw[if_neg h,ih];simp[h]
theorem FU{x0:AV}{Q:AV→ab→Prop}{l:List Int}(hx:Sl 1 (rows l) x0)(hl:l.length<4611686018427387904){t:Int}{H:ab} :
 ∀(s:List Int)(k:Nat)(i:Int),l.drop k=s→k≤l.length→i=k→(∀y,y=aI (A9 t s k)→Q y H) →
 bW env Tryz.f140 0 dW [(8,aI i),(0,x0),(1,aR t),(7,aI l.length)] H Q:=by
 intro s
 induction s with
 | nil =>
  rintro k i hs hk rfl hQ
  obtain rfl:=drop_nil hs hk
  refine iL _ _ _ _ _ _ fun g=>?_
  simp[ah,ai,ae,af,ad, *,dZ]
  all_goals exact hQ _ rfl
 | cons a s ih =>
  rintro k i hs hk rfl hQ
  obtain⟨hlt,hg,hs',hg'⟩:=drop_cons hs
  refine iL _ _ _ _ _ _ fun g=>?_
  have e3:=IntWalk.i64_in ((k:Int)+1) (by omega)
  by_cases hA:t=a
  ·have e:A9 t (a :: s) k=k:=by unfold A9;rw[if_pos hA]
   simp[ah,ai,ae,af,ad, *,dZ,hx.idx,rows,aR]
   all_goals exact hQ _ (by simp[e])
  ·have e:A9 t (a :: s) k=A9 t s (k+1):=by rw[A9,if_neg hA]
   have ih':=ih (k+1) ((k:Int)+1) hs' (by omega) (by simp) (fun y ey=>hQ y (by rw[ey,e]))
   clear ih hQ e
   simp[ah,ai,ae,af,ad, *,dZ,hx.idx,rows,aR]
   exact ih'
section
variable{x:AV}{l:List Int}(hx:Sl 1 (rows l) x)(hl:l.length<4611686018427387904)
include hx hl
theorem K0(t:Int):bj env 140 [x,aR t]=some (aI (A9 t l 0)):=by
 refine aJ (fn:=Tryz.f140) (c:=fM) rfl (by kernel_rfl) (by kernel_rfl) (by kernel_rfl) (by kernel_rfl) ?_;refine nF _ _ _ _ fun g=>?_
 have h:=hx.len
 simp[ah,ai,ae,af,ad, *,jw]
 exact FU hx hl l 0 _ rfl (by omega) rfl (fun y e=>by simp[e])
theorem E9(t:Int):bj env 122 [x,aR t]=some (aB (decide (t∈l))):=by
 refine aJ (fn:=Tryz.f122) (c:=iz) rfl (by kernel_rfl) (by kernel_rfl) (by kernel_rfl) (by kernel_rfl) ?_;refine my _ _ _ _ fun g=>?_
 have h:=K0 hx hl t
 have hr:=hx.r
 have e:=LZ t l 0
 simp[ah,ai,ae,af,ad, *,iF]
end
theorem Jh(bg:UInt8)(aP:UInt8)(aO:UInt32)(aT:UInt8)(aW:Int)(ba:UInt8)(aZ:UInt32)(bc:UInt8)(bf:Int)(au:Int)(az:UInt8)(ay:UInt32)(ax:UInt8)(aw:Int)(aC:UInt8)(aA:UInt32){x:AV}{l:List Int}(hx:Sl 1 (rows l) x)(hl:l.length<4611686018427387904):bj env 100 [.agg [a8 bg,a8 aP,aF aO,a8 aT,aI aW,a8 ba,aF aZ,a8 bc,aI bf,aI au,a8 az,aF ay,a8 ax,aI aw,a8 aC,aF aA,x]]=some (aB (!decide (-1∈l))):=by
 refine aJ (fn:=Tryz.f100) (c:=zf) rfl (by kernel_rfl) (by kernel_rfl) (by kernel_rfl) (by kernel_rfl) ?_;refine EL _ _ _ fun g=>?_
 have h:=E9 hx hl (-1)
 have hr:=hx.r
 unfold aR at h
 simp[ah,ai,ae,af,ad, *,zj]
def Ia(a b:bQ):Bool:=decide (a.kind=b.kind)&&((decide (a.h.lv=b.h.lv)&&decide (a.h.cats=b.h.cats)&&decide (a.h.num=b.h.num))&&(decide (a.serial=b.serial) &&
 ((decide (a.s.f.h.lv=b.s.f.h.lv)&&decide (a.s.f.h.cats=b.s.f.h.cats)&&decide (a.s.f.h.num=b.s.f.h.num)&&decide (a.s.f.n=b.s.f.n)&&decide (a.s.many=b.s.many)) &&
 ((decide (a.a.h.lv=b.a.h.lv)&&decide (a.a.h.cats=b.a.h.cats)&&decide (a.a.h.num=b.a.h.num)&&decide (a.a.n=b.a.n))&&((decide (a.to.lv=b.to.lv)&&decide (a.to.cats=b.to.cats))&&decide (a.l=b.l))))))
theorem KT(bg:UInt8)(aP:UInt8)(aO:UInt32)(aT:UInt8)(aW:Int)(ba:UInt8)(aZ:UInt32)(bc:UInt8)(bf:Int)(au:Int)(az:UInt8)(ay:UInt32)(ax:UInt8)(aw:Int)(aC:UInt8)(aA:UInt32)(kF:UInt8)(kE:UInt8)(k8:UInt32)(jd:UInt8)(M6:Int)(M4:UInt8)(MZ:UInt32)(MY:UInt8)(MX:Int)(CC:Int)(CB:UInt8)(CA:UInt32)(Cz:UInt8)(Cy:Int)(Cx:UInt8)(Cw:UInt32){x y:AV}{l m:List Int}(hx:Sl 1 (rows l) x)(hy:Sl 1 (rows m) y)(hl:l.length<1000000000):bj env 123 [.agg [a8 bg,a8 aP,aF aO,a8 aT,aI aW,a8 ba,aF aZ,a8 bc,aI bf,aI au,a8 az,aF ay,a8 ax,aI aw,a8 aC,aF aA,x],.agg [a8 kF,a8 kE,aF k8,a8 jd,aI M6,a8 M4,aF MZ,a8 MY,aI MX,aI CC,a8 CB,aF CA,a8 Cz,aI Cy,a8 Cx,aF Cw,y]]=some (aB (Ia (⟨bg,⟨aP,aO,aT⟩,aW,⟨⟨⟨ba,aZ,bc⟩,bf⟩,au⟩,⟨⟨az,ay,ax⟩,aw⟩,⟨aC,aA⟩,l⟩:bQ) (⟨kF,⟨kE,k8,jd⟩,M6,⟨⟨⟨M4,MZ,MY⟩,MX⟩,CC⟩,⟨⟨CB,CA,Cz⟩,Cy⟩,⟨Cx,Cw⟩,m⟩:bQ))):=by
 refine aJ (fn:=Tryz.f123) (c:=BC) rfl (by kernel_rfl) (by kernel_rfl) (by kernel_rfl) (by kernel_rfl) ?_;refine GH _ _ _ _ fun g=>?_
 have hq:=Jf hx hy (by omega)
 have hr:=hx.r
 have hr2:=hy.r
 unfold Ia
 cases c1:decide (bg=kF) with
 | false=>simp[ah,ai,ae,af,ad, *,kQ,lC,fL]
 | true =>
 cases c2:(decide (aP=kE)&&decide (aO=k8)&&decide (aT=jd)) with
 | false=>simp[ah,ai,ae,af,ad, *,kQ,lC,fL]
 | true =>
 cases c3:decide (aW=M6) with
 | false=>simp[ah,ai,ae,af,ad, *,kQ,lC,fL]
 | true =>
 cases c4:(decide (ba=M4)&&decide (aZ=MZ)&&decide (bc=MY)&&decide (bf=MX)&&decide (au=CC)) with
 | false=>simp[ah,ai,ae,af,ad, *,kQ,lC,fL]
 | true =>
 cases c5:(decide (az=CB)&&decide (ay=CA)&&decide (ax=Cz)&&decide (aw=Cy)) with
 | false=>simp[ah,ai,ae,af,ad, *,kQ,lC,fL]
 | true =>
 cases c6:(decide (aC=Cx)&&decide (aA=Cw)) with
 | false=>simp[ah,ai,ae,af,ad, *,kQ,lC,fL]
 | true=>simp[ah,ai,ae,af,ad, *,kQ,lC,fL]
end Go.Proofs.YtdbiffjdomokfaaGreat
