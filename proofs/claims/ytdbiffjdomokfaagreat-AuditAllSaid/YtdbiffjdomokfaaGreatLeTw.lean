/-
  Records checked and copied. No statement of a seat is proved here.
-/
import Derived.Test.YtdbiffjdomokfaaGreatRecFns
set_option linter.unusedVariables false
set_option linter.unusedSimpArgs false
set_option linter.unusedSectionVars false
set_option linter.unnecessarySimpa false
set_option maxRecDepth 100000
namespace Go.Proofs.YtdbiffjdomokfaaGreat
open Go.Ab
attribute [local simp] bD bq bo bF bE cZ ld bQ bx bA dx dw cg bT aY ct List.take_of_length_le
def jr.val(r:jr)(x:AV):AV := .agg [a8 r.kind,aI r.user,a8 r.op.kind,a8 r.op.h.lv,aF r.op.h.cats,a8 r.op.h.num,aI r.op.serial,a8 r.op.s.f.h.lv,aF r.op.s.f.h.cats,a8 r.op.s.f.h.num,aI r.op.s.f.n,aI r.op.s.many,
 a8 r.op.a.h.lv,aF r.op.a.h.cats,a8 r.op.a.h.num,aI r.op.a.n,a8 r.op.to.lv,aF r.op.to.cats,x,aI r.code,aI r.gu,a8 r.gv,aF r.gc,aB r.gok]
def xW(p:jr × AV):Prop:=Sl 1 (rows p.1.op.l) p.2∧p.1.op.l.length<1000000
def cI(l:List (jr × AV)):List AV:=l.map fun p=>p.1.val p.2
@[simp] theorem lN(l:List (jr × AV)):(cI l).length=l.length:=by simp[cI]
theorem Ij{p:jr × AV}(hp:xW p):bj env 44 [p.1.val p.2]=some (aI (if lT p.1 then 0 else 8)):=by
 obtain⟨⟨k,u,⟨bh,⟨aQ,aP,aT⟩,aX,⟨⟨⟨bc,ba,bf⟩,bg⟩,au⟩,⟨⟨az,ay,ax⟩,aw⟩,⟨aC,aA⟩,l⟩,c,g1,v,w,o⟩,x⟩:=p
 obtain⟨hx,hl⟩:=hp
 simp only at hx hl
 refine aL (fn:=Tryz.f44) (c:=tS) rfl (by kernel_rfl) (by kernel_rfl) (by kernel_rfl) (by kernel_rfl) ?_;refine Ar _ _ _ fun g=>?_
 have hB:=Ik k u bh aQ aP aT aX bc ba bf bg au az ay ax aw aC aA c g1 v w o hx (by omega)
 have hr:=hx.r
 have hc:C5 ⟨k,u,(⟨bh,⟨aQ,aP,aT⟩,aX,⟨⟨⟨bc,ba,bf⟩,bg⟩,au⟩,⟨⟨az,ay,ax⟩,aw⟩,⟨aC,aA⟩,l⟩:bR),c,g1,v,w,o⟩ = .cw 1 [a8 k] (some 1) ∨∃es,C5 ⟨k,u,(⟨bh,⟨aQ,aP,aT⟩,aX,⟨⟨⟨bc,ba,bf⟩,bg⟩,au⟩,⟨⟨az,ay,ax⟩,aw⟩,⟨aC,aA⟩,l⟩:bR),c,g1,v,w,o⟩ = .cw 1 es none:=by
  unfold C5
  repeat' (split)
  all_goals (first | exact .inl rfl | exact .inr ⟨_,rfl⟩)
 generalize C5 ⟨k,u,(⟨bh,⟨aQ,aP,aT⟩,aX,⟨⟨⟨bc,ba,bf⟩,bg⟩,au⟩,⟨⟨az,ay,ax⟩,aw⟩,⟨aC,aA⟩,l⟩:bR),c,g1,v,w,o⟩=z at *
 unfold jr.val
 generalize lT ⟨k,u,(⟨bh,⟨aQ,aP,aT⟩,aX,⟨⟨⟨bc,ba,bf⟩,bg⟩,au⟩,⟨⟨az,ay,ax⟩,aw⟩,⟨aC,aA⟩,l⟩:bR),c,g1,v,w,o⟩=b at *
 rcases hc with rfl | ⟨es,rfl⟩<;>cases b<;>simp[ah,ai,ae,af,ad, *,tX]
def xE:AV→AV
 | .cw z [] _ => .cw z [] (some 0)
 | .cw z es _ => .cw z es none
 | x=>x
theorem FP(z:Nat){es:List AV}(c:Option Nat)(h:es≠[]):xE (.cw z es c) = .cw z es none:=by
 cases es with
 | nil=>exact absurd rfl h
 | cons _ _=>rfl
theorem Mp(bh:UInt8)(aQ:UInt8)(aP:UInt32)(aT:UInt8)(aX:Int)(bc:UInt8)(ba:UInt32)(bf:UInt8)(bg:Int)(au:Int)(az:UInt8)(ay:UInt32)(ax:UInt8)(aw:Int)(aC:UInt8)(aA:UInt32){x:AV}{l:List Int}(hx:Sl 1 (rows l) x)(hl:l.length<1000000) : ∃y,y=xE x∧Sl 1 (rows l) y∧bj env 78 [.agg [a8 bh,a8 aQ,aF aP,a8 aT,aI aX,a8 bc,aF ba,a8 bf,aI bg,aI au,a8 az,aF ay,a8 ax,aI aw,a8 aC,aF aA,x]]=some (.agg [a8 bh,a8 aQ,aF aP,a8 aT,aI aX,a8 bc,aF ba,a8 bf,aI bg,aI au,a8 az,aF ay,a8 ax,aI aw,a8 aC,aF aA,y]):=by
 have hC:=DS hx (by omega) (by omega)
 rcases hx with ⟨rfl,h⟩ | ⟨cc,rfl,hcc⟩
 ·refine⟨cW,rfl,.inl ⟨rfl,h⟩,?_⟩
  refine aL (fn:=Tryz.f78) (c:=tv) rfl (by kernel_rfl) (by kernel_rfl) (by kernel_rfl) (by kernel_rfl) ?_;refine wO _ _ _ fun g=>?_
  rw[N3]at hC
  simp[ah,ai,ae,af,ad, *,tD]
 ·by_cases he:rows l=[]
  ·rw[he]at hC hcc ⊢
   refine⟨.cw 1 [] (some 0),rfl,.inr ⟨_,rfl,by simp⟩,?_⟩
   refine aL (fn:=Tryz.f78) (c:=tv) rfl (by kernel_rfl) (by kernel_rfl) (by kernel_rfl) (by kernel_rfl) ?_;refine wO _ _ _ fun g=>?_
   rw[Ja]at hC
   simp[ah,ai,ae,af,ad, *,tD]
  ·refine⟨.cw 1 (rows l) none,(FP 1 cc he).symm,Sl.mk _ _,?_⟩
   rw[oF 1 cc he]at hC
   have hlen:(rows l).length=l.length:=by simp
   generalize rows l=rw' at *
   refine aL (fn:=Tryz.f78) (c:=tv) rfl (by kernel_rfl) (by kernel_rfl) (by kernel_rfl) (by kernel_rfl) ?_;refine wO _ _ _ fun g=>?_
   simp[ah,ai,ae,af,ad, *,tD]
theorem Ps{p:jr × AV}(hp:xW p) : ∃y,y=xE p.2∧Sl 1 (rows p.1.op.l) y∧bj env 45 [p.1.val p.2]=some (p.1.val y):=by
 obtain⟨⟨k,u,⟨bh,⟨aQ,aP,aT⟩,aX,⟨⟨⟨bc,ba,bf⟩,bg⟩,au⟩,⟨⟨az,ay,ax⟩,aw⟩,⟨aC,aA⟩,l⟩,c,g1,v,w,o⟩,x⟩:=p
 obtain⟨hx,hl⟩:=hp
 simp only at hx hl
 obtain⟨y,ht,hy,hT⟩:=Mp bh aQ aP aT aX bc ba bf bg au az ay ax aw aC aA hx hl
 refine⟨y,ht,hy,?_⟩
 clear ht
 refine aL (fn:=Tryz.f45) (c:=u7) rfl (by kernel_rfl) (by kernel_rfl) (by kernel_rfl) (by kernel_rfl) ?_;refine A9 _ _ _ fun g=>?_
 unfold jr.val
 have hr:=hx.r
 have hr2:=hy.r
 simp[ah,ai,ae,af,ad, *,vl]
end Go.Proofs.YtdbiffjdomokfaaGreat
