/-
  Records checked and copied. No statement of a seat is proved here.
-/
import Derived.Test.YtmkmimgokagimaaGreatRecFns
set_option linter.unusedVariables false
set_option linter.unusedSimpArgs false
set_option linter.unusedSectionVars false
set_option linter.unnecessarySimpa false
set_option maxRecDepth 100000
namespace Go.Proofs.YtmkmimgokagimaaGreat
open Go.Ab
attribute [local simp] bj aL aF bg bf keep thr bx aT bc da cZ cJ bD aD bM List.take_of_length_le
def Rcd.val(r:Rcd)(x:AV):AV := .agg [a8 r.kind,aI r.user,a8 r.op.kind,a8 r.op.h.lv,a32 r.op.h.cats,a8 r.op.h.num,aI r.op.serial,a8 r.op.s.f.h.lv,a32 r.op.s.f.h.cats,a8 r.op.s.f.h.num,aI r.op.s.f.n,aI r.op.s.many,
 a8 r.op.a.h.lv,a32 r.op.a.h.cats,a8 r.op.a.h.num,aI r.op.a.n,a8 r.op.to.lv,a32 r.op.to.cats,x,aI r.code,aI r.gu,a8 r.gv,a32 r.gc,aB r.gok]
def okRc(p:Rcd × AV):Prop:=Sl 1 (rows p.1.op.l) p.2∧p.1.op.l.length<1000000
def dX(l:List (Rcd × AV)):List AV:=l.map fun p=>p.1.val p.2
@[simp] theorem vj(l:List (Rcd × AV)):(dX l).length=l.length:=by simp[dX]
theorem GV{p:Rcd × AV}(hp:okRc p):limf env 82 [p.1.val p.2]=some (aI (if iI p.1 then 0 else 8)):=by
 obtain⟨⟨k,u,⟨a_1,⟨a_2,a_3,a_4⟩,a_5,⟨⟨⟨a_6,a_7,a_8⟩,a_9⟩,a_10⟩,⟨⟨a_11,a_12,a_13⟩,a_14⟩,⟨a_15,a_16⟩,l⟩,c,g1,v,w,o⟩,x⟩:=p
 obtain⟨hx,hl⟩:=hp
 simp only at hx hl
 refine aw (fn:=Tryz.f82) (c:=rL) rfl (by kernel_rfl) (by kernel_rfl) (by kernel_rfl) (by kernel_rfl) ?_;refine yI _ _ _ fun g=>?_
 have hB:=GW k u a_1 a_2 a_3 a_4 a_5 a_6 a_7 a_8 a_9 a_10 a_11 a_12 a_13 a_14 a_15 a_16 c g1 v w o hx (by omega)
 have hr:=hx.r
 have hc:recZ ⟨k,u,(⟨a_1,⟨a_2,a_3,a_4⟩,a_5,⟨⟨⟨a_6,a_7,a_8⟩,a_9⟩,a_10⟩,⟨⟨a_11,a_12,a_13⟩,a_14⟩,⟨a_15,a_16⟩,l⟩:Opn),c,g1,v,w,o⟩ = .isl 1 [a8 k] (some 1) ∨∃es,recZ ⟨k,u,(⟨a_1,⟨a_2,a_3,a_4⟩,a_5,⟨⟨⟨a_6,a_7,a_8⟩,a_9⟩,a_10⟩,⟨⟨a_11,a_12,a_13⟩,a_14⟩,⟨a_15,a_16⟩,l⟩:Opn),c,g1,v,w,o⟩ = .isl 1 es none:=by
  unfold recZ
  repeat' (split)
  all_goals (first | exact .inl rfl | exact .inr ⟨_,rfl⟩)
 generalize recZ ⟨k,u,(⟨a_1,⟨a_2,a_3,a_4⟩,a_5,⟨⟨⟨a_6,a_7,a_8⟩,a_9⟩,a_10⟩,⟨⟨a_11,a_12,a_13⟩,a_14⟩,⟨a_15,a_16⟩,l⟩:Opn),c,g1,v,w,o⟩=z at *
 unfold Rcd.val
 generalize iI ⟨k,u,(⟨a_1,⟨a_2,a_3,a_4⟩,a_5,⟨⟨⟨a_6,a_7,a_8⟩,a_9⟩,a_10⟩,⟨⟨a_11,a_12,a_13⟩,a_14⟩,⟨a_15,a_16⟩,l⟩:Opn),c,g1,v,w,o⟩=b at *
 rcases hc with rfl | ⟨es,rfl⟩<;>cases b<;>simp[af,ah,ad,ae,ab, *,sf]
def lQ:AV→AV
 | .isl z [] _ => .isl z [] (some 0)
 | .isl z es _ => .isl z es none
 | x=>x
theorem FO(z:Nat){es:List AV}(c:Option Nat)(h:es≠[]):lQ (.isl z es c) = .isl z es none:=by
 cases es with
 | nil=>exact absurd rfl h
 | cons _ _=>rfl
theorem zb(a_1:UInt8)(a_2:UInt8)(a_3:UInt32)(a_4:UInt8)(a_5:Int)(a_6:UInt8)(a_7:UInt32)(a_8:UInt8)(a_9:Int)(a_10:Int)(a_11:UInt8)(a_12:UInt32)(a_13:UInt8)(a_14:Int)(a_15:UInt8)(a_16:UInt32){x:AV}{l:List Int}(hx:Sl 1 (rows l) x)(hl:l.length<1000000) : ∃y,y=lQ x∧Sl 1 (rows l) y∧limf env 108 [.agg [a8 a_1,a8 a_2,a32 a_3,a8 a_4,aI a_5,a8 a_6,a32 a_7,a8 a_8,aI a_9,aI a_10,a8 a_11,a32 a_12,a8 a_13,aI a_14,a8 a_15,a32 a_16,x]]=some (.agg [a8 a_1,a8 a_2,a32 a_3,a8 a_4,aI a_5,a8 a_6,a32 a_7,a8 a_8,aI a_9,aI a_10,a8 a_11,a32 a_12,a8 a_13,aI a_14,a8 a_15,a32 a_16,y]):=by
 have hC:=Ds hx (by omega) (by omega)
 rcases hx with ⟨rfl,h⟩ | ⟨cc,rfl,hcc⟩
 ·refine⟨aNil,rfl,.inl ⟨rfl,h⟩,?_⟩
  refine aw (fn:=Tryz.f108) (c:=sW) rfl (by kernel_rfl) (by kernel_rfl) (by kernel_rfl) (by kernel_rfl) ?_;refine vP _ _ _ fun g=>?_
  rw[Mq]at hC
  simp[af,ah,ad,ae,ab, *,sZ]
 ·by_cases he:rows l=[]
  ·rw[he]at hC hcc ⊢
   refine⟨.isl 1 [] (some 0),rfl,.inr ⟨_,rfl,by simp⟩,?_⟩
   refine aw (fn:=Tryz.f108) (c:=sW) rfl (by kernel_rfl) (by kernel_rfl) (by kernel_rfl) (by kernel_rfl) ?_;refine vP _ _ _ fun g=>?_
   rw[HK]at hC
   simp[af,ah,ad,ae,ab, *,sZ]
  ·refine⟨.isl 1 (rows l) none,(FO 1 cc he).symm,Sl.mk _ _,?_⟩
   rw[nw 1 cc he]at hC
   have hlen:(rows l).length=l.length:=by simp
   generalize rows l=rw' at *
   refine aw (fn:=Tryz.f108) (c:=sW) rfl (by kernel_rfl) (by kernel_rfl) (by kernel_rfl) (by kernel_rfl) ?_;refine vP _ _ _ fun g=>?_
   simp[af,ah,ad,ae,ab, *,sZ]
theorem Oq{p:Rcd × AV}(hp:okRc p) : ∃y,y=lQ p.2∧Sl 1 (rows p.1.op.l) y∧limf env 161 [p.1.val p.2]=some (p.1.val y):=by
 obtain⟨⟨k,u,⟨a_1,⟨a_2,a_3,a_4⟩,a_5,⟨⟨⟨a_6,a_7,a_8⟩,a_9⟩,a_10⟩,⟨⟨a_11,a_12,a_13⟩,a_14⟩,⟨a_15,a_16⟩,l⟩,c,g1,v,w,o⟩,x⟩:=p
 obtain⟨hx,hl⟩:=hp
 simp only at hx hl
 obtain⟨y,ht,hy,hT⟩:=zb a_1 a_2 a_3 a_4 a_5 a_6 a_7 a_8 a_9 a_10 a_11 a_12 a_13 a_14 a_15 a_16 hx hl
 refine⟨y,ht,hy,?_⟩
 clear ht
 refine aw (fn:=Tryz.f161) (c:=tB) rfl (by kernel_rfl) (by kernel_rfl) (by kernel_rfl) (by kernel_rfl) ?_;refine AA _ _ _ fun g=>?_
 unfold Rcd.val
 have hr:=hx.r
 have hr2:=hy.r
 simp[af,ah,ad,ae,ab, *,tK]
end Go.Proofs.YtmkmimgokagimaaGreat
