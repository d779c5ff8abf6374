/-
  Records checked and copied. No statement of a seat is proved here.
-/
import Derived.Test.YtdbiffjdomokfaaGreatRecFns
set_option linter.unusedVariables false
set_option linter.unusedSimpArgs false
set_option linter.unusedSectionVars false
set_option linter.unnecessarySimpa false
set_option maxRecDepth 100000
namespace Go.Proofs.YtdbiffjdomokfaaGreat
open Go.Ab
attribute [local simp] bD bp bl bC bB cV lj bP bt bA dc db cg bR aV cm List.take_of_length_le
def gA.val(r:gA)(x:AV):AV := .agg [a8 r.kind,aI r.user,a8 r.op.kind,a8 r.op.h.lv,aG r.op.h.cats,a8 r.op.h.num,aI r.op.serial,a8 r.op.s.f.h.lv,aG r.op.s.f.h.cats,a8 r.op.s.f.h.num,aI r.op.s.f.n,aI r.op.s.many,
 a8 r.op.a.h.lv,aG r.op.a.h.cats,a8 r.op.a.h.num,aI r.op.a.n,a8 r.op.to.lv,aG r.op.to.cats,x,aI r.code,aI r.gu,a8 r.gv,aG r.gc,aB r.gok]
def uJ(p:gA × AV):Prop:=Sl 1 (rows p.1.op.l) p.2∧p.1.op.l.length<1000000
def bU(l:List (gA × AV)):List AV:=l.map fun p=>p.1.val p.2
@[simp] theorem kW(l:List (gA × AV)):(bU l).length=l.length:=by simp[bU]
theorem I1{p:gA × AV}(hp:uJ p):bj env 44 [p.1.val p.2]=some (aI (if m4 p.1 then 0 else 8)):=by
 obtain⟨⟨k,u,⟨bh,⟨aQ,aP,aW⟩,aY,⟨⟨⟨bc,ba,bf⟩,bg⟩,au⟩,⟨⟨az,ay,ax⟩,aw⟩,⟨aC,aA⟩,l⟩,c,g1,v,w,o⟩,x⟩:=p
 obtain⟨hx,hl⟩:=hp
 simp only at hx hl
 refine aK (fn:=Tryz.f44) (c:=uq) rfl (by kernel_rfl) (by kernel_rfl) (by kernel_rfl) (by kernel_rfl) ?_;refine AS _ _ _ fun g=>?_
 have hB:=I2 k u bh aQ aP aW aY bc ba bf bg au az ay ax aw aC aA c g1 v w o hx (by omega)
 have hr:=hx.r
 have hc:DC ⟨k,u,(⟨bh,⟨aQ,aP,aW⟩,aY,⟨⟨⟨bc,ba,bf⟩,bg⟩,au⟩,⟨⟨az,ay,ax⟩,aw⟩,⟨aC,aA⟩,l⟩:bG),c,g1,v,w,o⟩ = .cw 1 [a8 k] (some 1) ∨∃es,DC ⟨k,u,(⟨bh,⟨aQ,aP,aW⟩,aY,⟨⟨⟨bc,ba,bf⟩,bg⟩,au⟩,⟨⟨az,ay,ax⟩,aw⟩,⟨aC,aA⟩,l⟩:bG),c,g1,v,w,o⟩ = .cw 1 es none:=by
  unfold DC
  repeat' (split)
  all_goals (first | exact .inl rfl | exact .inr ⟨_,rfl⟩)
 generalize DC ⟨k,u,(⟨bh,⟨aQ,aP,aW⟩,aY,⟨⟨⟨bc,ba,bf⟩,bg⟩,au⟩,⟨⟨az,ay,ax⟩,aw⟩,⟨aC,aA⟩,l⟩:bG),c,g1,v,w,o⟩=z at *
 unfold gA.val
 generalize m4 ⟨k,u,(⟨bh,⟨aQ,aP,aW⟩,aY,⟨⟨⟨bc,ba,bf⟩,bg⟩,au⟩,⟨⟨az,ay,ax⟩,aw⟩,⟨aC,aA⟩,l⟩:bG),c,g1,v,w,o⟩=b at *
 rcases hc with rfl | ⟨es,rfl⟩<;>cases b<;>simp[ah,ai,ae,af,ad, *,uB]
def q0:AV→AV
 | .cw z [] _ => .cw z [] (some 0)
 | .cw z es _ => .cw z es none
 | x=>x
theorem Gx(z:Nat){es:List AV}(c:Option Nat)(h:es≠[]):q0 (.cw z es c) = .cw z es none:=by
 cases es with
 | nil=>exact absurd rfl h
 | cons _ _=>rfl
theorem Nk(bh:UInt8)(aQ:UInt8)(aP:UInt32)(aW:UInt8)(aY:Int)(bc:UInt8)(ba:UInt32)(bf:UInt8)(bg:Int)(au:Int)(az:UInt8)(ay:UInt32)(ax:UInt8)(aw:Int)(aC:UInt8)(aA:UInt32){x:AV}{l:List Int}(hx:Sl 1 (rows l) x)(hl:l.length<1000000) : ∃y,y=q0 x∧Sl 1 (rows l) y∧bj env 78 [.agg [a8 bh,a8 aQ,aG aP,a8 aW,aI aY,a8 bc,aG ba,a8 bf,aI bg,aI au,a8 az,aG ay,a8 ax,aI aw,a8 aC,aG aA,x]]=some (.agg [a8 bh,a8 aQ,aG aP,a8 aW,aI aY,a8 bc,aG ba,a8 bf,aI bg,aI au,a8 az,aG ay,a8 ax,aI aw,a8 aC,aG aA,y]):=by
 have hC:=Es hx (by omega) (by omega)
 rcases hx with ⟨rfl,h⟩ | ⟨cc,rfl,hcc⟩
 ·refine⟨cP,rfl,.inl ⟨rfl,h⟩,?_⟩
  refine aK (fn:=Tryz.f78) (c:=tM) rfl (by kernel_rfl) (by kernel_rfl) (by kernel_rfl) (by kernel_rfl) ?_;refine xm _ _ _ fun g=>?_
  rw[OR]at hC
  simp[ah,ai,ae,af,ad, *,tW]
 ·by_cases he:rows l=[]
  ·rw[he]at hC hcc ⊢
   refine⟨.cw 1 [] (some 0),rfl,.inr ⟨_,rfl,by simp⟩,?_⟩
   refine aK (fn:=Tryz.f78) (c:=tM) rfl (by kernel_rfl) (by kernel_rfl) (by kernel_rfl) (by kernel_rfl) ?_;refine xm _ _ _ fun g=>?_
   rw[JU]at hC
   simp[ah,ai,ae,af,ad, *,tW]
  ·refine⟨.cw 1 (rows l) none,(Gx 1 cc he).symm,Sl.mk _ _,?_⟩
   rw[oR 1 cc he]at hC
   have hlen:(rows l).length=l.length:=by simp
   generalize rows l=rw' at *
   refine aK (fn:=Tryz.f78) (c:=tM) rfl (by kernel_rfl) (by kernel_rfl) (by kernel_rfl) (by kernel_rfl) ?_;refine xm _ _ _ fun g=>?_
   simp[ah,ai,ae,af,ad, *,tW]
theorem Qb{p:gA × AV}(hp:uJ p) : ∃y,y=q0 p.2∧Sl 1 (rows p.1.op.l) y∧bj env 45 [p.1.val p.2]=some (p.1.val y):=by
 obtain⟨⟨k,u,⟨bh,⟨aQ,aP,aW⟩,aY,⟨⟨⟨bc,ba,bf⟩,bg⟩,au⟩,⟨⟨az,ay,ax⟩,aw⟩,⟨aC,aA⟩,l⟩,c,g1,v,w,o⟩,x⟩:=p
 obtain⟨hx,hl⟩:=hp
 simp only at hx hl
 obtain⟨y,ht,hy,hT⟩:=Nk bh aQ aP aW aY bc ba bf bg au az ay ax aw aC aA hx hl
 refine⟨y,ht,hy,?_⟩
 clear ht
 refine aK (fn:=Tryz.f45) (c:=vD) rfl (by kernel_rfl) (by kernel_rfl) (by kernel_rfl) (by kernel_rfl) ?_;refine BA _ _ _ fun g=>?_
 unfold gA.val
 have hr:=hx.r
 have hr2:=hy.r
 simp[ah,ai,ae,af,ad, *,vM]
end Go.Proofs.YtdbiffjdomokfaaGreat
