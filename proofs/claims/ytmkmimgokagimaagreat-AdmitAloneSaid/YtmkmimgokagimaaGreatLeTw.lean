/-
  Records checked and copied. No statement of a seat is proved here.
-/
import Derived.Test.YtmkmimgokagimaaGreatRecFns
set_option linter.unusedVariables false
set_option linter.unusedSimpArgs false
set_option linter.unusedSectionVars false
set_option linter.unnecessarySimpa false
set_option maxRecDepth 100000
namespace Go.Proofs.YtmkmimgokagimaaGreat
open Go.Ab
attribute [local simp] bJ bw bt bG bF cL kN bX bx bD cR cQ cr bY bh ct List.take_of_length_le
def fY.val(r:fY)(x:AV):AV := .agg [a8 r.kind,aI r.user,a8 r.op.kind,a8 r.op.h.lv,aF r.op.h.cats,a8 r.op.h.num,aI r.op.serial,a8 r.op.s.f.h.lv,aF r.op.s.f.h.cats,a8 r.op.s.f.h.num,aI r.op.s.f.n,aI r.op.s.many,
 a8 r.op.a.h.lv,aF r.op.a.h.cats,a8 r.op.a.h.num,aI r.op.a.n,a8 r.op.to.lv,aF r.op.to.cats,x,aI r.code,aI r.gu,a8 r.gv,aF r.gc,aB r.gok]
def oK(p:fY × AV):Prop:=Sl 1 (rows p.1.op.l) p.2∧p.1.op.l.length<1000000
def cW(l:List (fY × AV)):List AV:=l.map fun p=>p.1.val p.2
@[simp] theorem p4(l:List (fY × AV)):(cW l).length=l.length:=by simp[cW]
theorem LP{p:fY × AV}(hp:oK p):bj env 82 [p.1.val p.2]=some (aI (if n8 p.1 then 0 else 8)):=by
 obtain⟨⟨k,u,⟨ba,⟨aO,aN,aT⟩,aV,⟨⟨⟨aX,aW,aY⟩,aZ⟩,an⟩,⟨⟨ay,ax,aw⟩,au⟩,⟨aA,az⟩,l⟩,c,g1,v,w,o⟩,x⟩:=p
 obtain⟨hx,hl⟩:=hp
 simp only at hx hl
 refine aG (fn:=Tryz.f82) (c:=wW) rfl (by kernel_rfl) (by kernel_rfl) (by kernel_rfl) (by kernel_rfl) ?_;refine Dv _ _ _ fun g=>?_
 have hB:=LQ k u ba aO aN aT aV aX aW aY aZ an ay ax aw au aA az c g1 v w o hx (by omega)
 have hr:=hx.r
 have hc:GG ⟨k,u,(⟨ba,⟨aO,aN,aT⟩,aV,⟨⟨⟨aX,aW,aY⟩,aZ⟩,an⟩,⟨⟨ay,ax,aw⟩,au⟩,⟨aA,az⟩,l⟩:bz),c,g1,v,w,o⟩ = .ck 1 [a8 k] (some 1) ∨∃es,GG ⟨k,u,(⟨ba,⟨aO,aN,aT⟩,aV,⟨⟨⟨aX,aW,aY⟩,aZ⟩,an⟩,⟨⟨ay,ax,aw⟩,au⟩,⟨aA,az⟩,l⟩:bz),c,g1,v,w,o⟩ = .ck 1 es none:=by
  unfold GG
  repeat' (split)
  all_goals (first | exact .inl rfl | exact .inr ⟨_,rfl⟩)
 generalize GG ⟨k,u,(⟨ba,⟨aO,aN,aT⟩,aV,⟨⟨⟨aX,aW,aY⟩,aZ⟩,an⟩,⟨⟨ay,ax,aw⟩,au⟩,⟨aA,az⟩,l⟩:bz),c,g1,v,w,o⟩=z at *
 unfold fY.val
 generalize n8 ⟨k,u,(⟨ba,⟨aO,aN,aT⟩,aV,⟨⟨⟨aX,aW,aY⟩,aZ⟩,an⟩,⟨⟨ay,ax,aw⟩,au⟩,⟨aA,az⟩,l⟩:bz),c,g1,v,w,o⟩=b at *
 rcases hc with rfl | ⟨es,rfl⟩<;>cases b<;>simp[ah,ai,ae,af,ab, *,xd]
def mY:AV→AV
 | .ck z [] _ => .ck z [] (some 0)
 | .ck z es _ => .ck z es none
 | x=>x
theorem Jx(z:Nat){es:List AV}(c:Option Nat)(h:es≠[]):mY (.ck z es c) = .ck z es none:=by
 cases es with
 | nil=>exact absurd rfl h
 | cons _ _=>rfl
theorem Co(ba:UInt8)(aO:UInt8)(aN:UInt32)(aT:UInt8)(aV:Int)(aX:UInt8)(aW:UInt32)(aY:UInt8)(aZ:Int)(an:Int)(ay:UInt8)(ax:UInt32)(aw:UInt8)(au:Int)(aA:UInt8)(az:UInt32){x:AV}{l:List Int}(hx:Sl 1 (rows l) x)(hl:l.length<1000000) : ∃y,y=mY x∧Sl 1 (rows l) y∧bj env 108 [.agg [a8 ba,a8 aO,aF aN,a8 aT,aI aV,a8 aX,aF aW,a8 aY,aI aZ,aI an,a8 ay,aF ax,a8 aw,aI au,a8 aA,aF az,x]]=some (.agg [a8 ba,a8 aO,aF aN,a8 aT,aI aV,a8 aX,aF aW,a8 aY,aI aZ,aI an,a8 ay,aF ax,a8 aw,aI au,a8 aA,aF az,y]):=by
 have hC:=Hr hx (by omega) (by omega)
 rcases hx with ⟨rfl,h⟩ | ⟨cc,rfl,hcc⟩
 ·refine⟨cp,rfl,.inl ⟨rfl,h⟩,?_⟩
  refine aG (fn:=Tryz.f108) (c:=wE) rfl (by kernel_rfl) (by kernel_rfl) (by kernel_rfl) (by kernel_rfl) ?_;refine zW _ _ _ fun g=>?_
  rw[RJ]at hC
  simp[ah,ai,ae,af,ab, *,wO]
 ·by_cases he:rows l=[]
  ·rw[he]at hC hcc ⊢
   refine⟨.ck 1 [] (some 0),rfl,.inr ⟨_,rfl,by simp⟩,?_⟩
   refine aG (fn:=Tryz.f108) (c:=wE) rfl (by kernel_rfl) (by kernel_rfl) (by kernel_rfl) (by kernel_rfl) ?_;refine zW _ _ _ fun g=>?_
   rw[MH]at hC
   simp[ah,ai,ae,af,ab, *,wO]
  ·refine⟨.ck 1 (rows l) none,(Jx 1 cc he).symm,Sl.mk _ _,?_⟩
   rw[p6 1 cc he]at hC
   have hlen:(rows l).length=l.length:=by simp
   generalize rows l=rw' at *
   refine aG (fn:=Tryz.f108) (c:=wE) rfl (by kernel_rfl) (by kernel_rfl) (by kernel_rfl) (by kernel_rfl) ?_;refine zW _ _ _ fun g=>?_
   simp[ah,ai,ae,af,ab, *,wO]
theorem SS{p:fY × AV}(hp:oK p) : ∃y,y=mY p.2∧Sl 1 (rows p.1.op.l) y∧bj env 161 [p.1.val p.2]=some (p.1.val y):=by
 obtain⟨⟨k,u,⟨ba,⟨aO,aN,aT⟩,aV,⟨⟨⟨aX,aW,aY⟩,aZ⟩,an⟩,⟨⟨ay,ax,aw⟩,au⟩,⟨aA,az⟩,l⟩,c,g1,v,w,o⟩,x⟩:=p
 obtain⟨hx,hl⟩:=hp
 simp only at hx hl
 obtain⟨y,ht,hy,hT⟩:=Co ba aO aN aT aV aX aW aY aZ an ay ax aw au aA az hx hl
 refine⟨y,ht,hy,?_⟩
 clear ht
 refine aG (fn:=Tryz.f161) (c:=yl) rfl (by kernel_rfl) (by kernel_rfl) (by kernel_rfl) (by kernel_rfl) ?_;refine Ev _ _ _ fun g=>?_
 unfold fY.val
 have hr:=hx.r
 have hr2:=hy.r
 simp[ah,ai,ae,af,ab, *,yD]
end Go.Proofs.YtmkmimgokagimaaGreat
