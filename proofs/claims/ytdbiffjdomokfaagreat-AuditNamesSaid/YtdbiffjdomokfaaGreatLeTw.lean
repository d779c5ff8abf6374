/-
  Records checked and copied. No statement of a seat is proved here.
-/
import Derived.Test.YtdbiffjdomokfaaGreatRecFns
set_option linter.unusedVariables false
set_option linter.unusedSimpArgs false
set_option linter.unusedSectionVars false
set_option linter.unnecessarySimpa false
set_option maxRecDepth 100000
namespace Go.Proofs.YtdbiffjdomokfaaGreat
open Go.Ab
attribute [local simp] bK bw bo bM bL dc kS bU bx bH dJ dI cp bX bh cC List.take_of_length_le
def mv.val(r:mv)(x:AV):AV := .agg [a8 r.kind,aI r.user,a8 r.op.kind,a8 r.op.h.lv,aF r.op.h.cats,a8 r.op.h.num,aI r.op.serial,a8 r.op.s.f.h.lv,aF r.op.s.f.h.cats,a8 r.op.s.f.h.num,aI r.op.s.f.n,aI r.op.s.many,
 a8 r.op.a.h.lv,aF r.op.a.h.cats,a8 r.op.a.h.num,aI r.op.a.n,a8 r.op.to.lv,aF r.op.to.cats,x,aI r.code,aI r.gu,a8 r.gv,aF r.gc,aB r.gok]
def AK(p:mv × AV):Prop:=Sl 1 (rows p.1.op.l) p.2∧p.1.op.l.length<1000000
def dk(l:List (mv × AV)):List AV:=l.map fun p=>p.1.val p.2
@[simp] theorem nP(l:List (mv × AV)):(dk l).length=l.length:=by simp[dk]
theorem GX{p:mv × AV}(hp:AK p):bj env 44 [p.1.val p.2]=some (aI (if px p.1 then 0 else 8)):=by
 obtain⟨⟨k,u,⟨bg,⟨aP,aO,aT⟩,aW,⟨⟨⟨ba,aZ,bc⟩,bf⟩,au⟩,⟨⟨az,ay,ax⟩,aw⟩,⟨aC,aA⟩,l⟩,c,g1,v,w,o⟩,x⟩:=p
 obtain⟨hx,hl⟩:=hp
 simp only at hx hl
 refine aJ (fn:=Tryz.f44) (c:=sQ) rfl (by kernel_rfl) (by kernel_rfl) (by kernel_rfl) (by kernel_rfl) ?_;refine zl _ _ _ fun g=>?_
 have hB:=GY k u bg aP aO aT aW ba aZ bc bf au az ay ax aw aC aA c g1 v w o hx (by omega)
 have hr:=hx.r
 have hc:B4 ⟨k,u,(⟨bg,⟨aP,aO,aT⟩,aW,⟨⟨⟨ba,aZ,bc⟩,bf⟩,au⟩,⟨⟨az,ay,ax⟩,aw⟩,⟨aC,aA⟩,l⟩:bQ),c,g1,v,w,o⟩ = .cm 1 [a8 k] (some 1) ∨∃es,B4 ⟨k,u,(⟨bg,⟨aP,aO,aT⟩,aW,⟨⟨⟨ba,aZ,bc⟩,bf⟩,au⟩,⟨⟨az,ay,ax⟩,aw⟩,⟨aC,aA⟩,l⟩:bQ),c,g1,v,w,o⟩ = .cm 1 es none:=by
  unfold B4
  repeat' (split)
  all_goals (first | exact .inl rfl | exact .inr ⟨_,rfl⟩)
 generalize B4 ⟨k,u,(⟨bg,⟨aP,aO,aT⟩,aW,⟨⟨⟨ba,aZ,bc⟩,bf⟩,au⟩,⟨⟨az,ay,ax⟩,aw⟩,⟨aC,aA⟩,l⟩:bQ),c,g1,v,w,o⟩=z at *
 unfold mv.val
 generalize px ⟨k,u,(⟨bg,⟨aP,aO,aT⟩,aW,⟨⟨⟨ba,aZ,bc⟩,bf⟩,au⟩,⟨⟨az,ay,ax⟩,aw⟩,⟨aC,aA⟩,l⟩:bQ),c,g1,v,w,o⟩=b at *
 rcases hc with rfl | ⟨es,rfl⟩<;>cases b<;>simp[ah,ai,ae,af,ad, *,sV]
def wB:AV→AV
 | .cm z [] _ => .cm z [] (some 0)
 | .cm z es _ => .cm z es none
 | x=>x
theorem ER(z:Nat){es:List AV}(c:Option Nat)(h:es≠[]):wB (.cm z es c) = .cm z es none:=by
 cases es with
 | nil=>exact absurd rfl h
 | cons _ _=>rfl
theorem KS(bg:UInt8)(aP:UInt8)(aO:UInt32)(aT:UInt8)(aW:Int)(ba:UInt8)(aZ:UInt32)(bc:UInt8)(bf:Int)(au:Int)(az:UInt8)(ay:UInt32)(ax:UInt8)(aw:Int)(aC:UInt8)(aA:UInt32){x:AV}{l:List Int}(hx:Sl 1 (rows l) x)(hl:l.length<1000000) : ∃y,y=wB x∧Sl 1 (rows l) y∧bj env 78 [.agg [a8 bg,a8 aP,aF aO,a8 aT,aI aW,a8 ba,aF aZ,a8 bc,aI bf,aI au,a8 az,aF ay,a8 ax,aI aw,a8 aC,aF aA,x]]=some (.agg [a8 bg,a8 aP,aF aO,a8 aT,aI aW,a8 ba,aF aZ,a8 bc,aI bf,aI au,a8 az,aF ay,a8 ax,aI aw,a8 aC,aF aA,y]):=by
 have hC:=CO hx (by omega) (by omega)
 rcases hx with ⟨rfl,h⟩ | ⟨cc,rfl,hcc⟩
 ·refine⟨dg,rfl,.inl ⟨rfl,h⟩,?_⟩
  refine aJ (fn:=Tryz.f78) (c:=so) rfl (by kernel_rfl) (by kernel_rfl) (by kernel_rfl) (by kernel_rfl) ?_;refine vH _ _ _ fun g=>?_
  rw[Ml]at hC
  simp[ah,ai,ae,af,ad, *,sC]
 ·by_cases he:rows l=[]
  ·rw[he]at hC hcc ⊢
   refine⟨.cm 1 [] (some 0),rfl,.inr ⟨_,rfl,by simp⟩,?_⟩
   refine aJ (fn:=Tryz.f78) (c:=so) rfl (by kernel_rfl) (by kernel_rfl) (by kernel_rfl) (by kernel_rfl) ?_;refine vH _ _ _ fun g=>?_
   rw[HI]at hC
   simp[ah,ai,ae,af,ad, *,sC]
  ·refine⟨.cm 1 (rows l) none,(ER 1 cc he).symm,Sl.mk _ _,?_⟩
   rw[nR 1 cc he]at hC
   have hlen:(rows l).length=l.length:=by simp
   generalize rows l=rw' at *
   refine aJ (fn:=Tryz.f78) (c:=so) rfl (by kernel_rfl) (by kernel_rfl) (by kernel_rfl) (by kernel_rfl) ?_;refine vH _ _ _ fun g=>?_
   simp[ah,ai,ae,af,ad, *,sC]
theorem ND{p:mv × AV}(hp:AK p) : ∃y,y=wB p.2∧Sl 1 (rows p.1.op.l) y∧bj env 45 [p.1.val p.2]=some (p.1.val y):=by
 obtain⟨⟨k,u,⟨bg,⟨aP,aO,aT⟩,aW,⟨⟨⟨ba,aZ,bc⟩,bf⟩,au⟩,⟨⟨az,ay,ax⟩,aw⟩,⟨aC,aA⟩,l⟩,c,g1,v,w,o⟩,x⟩:=p
 obtain⟨hx,hl⟩:=hp
 simp only at hx hl
 obtain⟨y,ht,hy,hT⟩:=KS bg aP aO aT aW ba aZ bc bf au az ay ax aw aC aA hx hl
 refine⟨y,ht,hy,?_⟩
 clear ht
 refine aJ (fn:=Tryz.f45) (c:=tY) rfl (by kernel_rfl) (by kernel_rfl) (by kernel_rfl) (by kernel_rfl) ?_;refine z8 _ _ _ fun g=>?_
 unfold mv.val
 have hr:=hx.r
 have hr2:=hy.r
 simp[ah,ai,ae,af,ad, *,uj]
end Go.Proofs.YtdbiffjdomokfaaGreat
