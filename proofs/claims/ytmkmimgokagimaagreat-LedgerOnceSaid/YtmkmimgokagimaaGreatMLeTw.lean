/-
  What a log tells, under way: whether a record fits. No statement of a seat is proved here.
-/
import Derived.Test.YtmkmimgokagimaaGreatLeBook
import Derived.Test.YtmkmimgokagimaaGreatRecFns
set_option linter.unusedVariables false
set_option linter.unusedSimpArgs false
set_option linter.unusedSectionVars false
set_option linter.unnecessarySimpa false
set_option maxRecDepth 100000
namespace Go.Proofs.YtmkmimgokagimaaGreat
open Go.Ab
attribute [local simp] bn aV aF bj bh keep thr bD aX bc dx dw cN bE aD ct List.take_of_length_le
theorem sS(g:Get)(a b:List Ref):im g (a++b)=(im g a&&im g b):=by
 unfold im;rw[List.all_append]
theorem A7{f:FuncId}(hm:(env.mode f == 2)=true){dep:Nat}{H:Heap}{args:List AV}{y:AV}(h : ∃H',limt env dep (.fn f) args H=some (y,H')∧Grow H H')(hf:flat depth y=true)(r:Ref) :
 jr env true (limf env) (limt env dep) H r (some (.fn (.func f) [] [])) args=some (y,H):=by
 obtain⟨H',h1,h2⟩:=h
 have hm':env.mode f=2:=by simpa using hm
 have e:([]++args++[]:List AV)=args:=by simp
 have hs:env.sm.f H H'=true:=Cr h2.old
 simp only[jr,je,lR,if_pos hm',e,h1,nRes,orW,Option.map_none,cond_true]
 show nE true env.sm H (some (y,H'))=_
 simp only[nE,hf,hs,Bool.or_true,Bool.and_true,if_true]
@[simp] theorem QN(y:AV):mS AV.undef y=true:=id rfl
def rX(b:Book)(o:Opn):Ses:=sesD (dc o.h b.ses)
def pq(b:Book)(o:Opn):Use:=useD (dc ⟨o.h.lv,o.h.cats⟩ b.used)
def Cu(us0:List Clear)(qs:List Quota)(gr0:Int)(b:Book)(r:Rcd):Bool :=
 !(rX b r.op).o&&(yz b qs r.user r.op.h.lv r.op.h.cats&&decide ((pq b r.op).opens<(eY us0 qs gr0 r.op.h.lv r.op.h.cats).opens))
def Ct(us0:List Clear)(qs:List Quota)(gr0:Int)(b:Book)(r:Rcd):Bool :=
 (rX b r.op).o&&(yz b qs (rX b r.op).u r.op.h.lv r.op.h.cats&&(decide (r.op.serial=IntKind.i64.wrap ((rX b r.op).s+1))&&(decide ((pq b r.op).ops<(eY us0 qs gr0 r.op.h.lv r.op.h.cats).ops)&&decide (r.code=rL us0 qs gr0 b r.op))))
def Ba(qs:List Quota)(b:Book)(r:Rcd):Bool:=decide (q0 b.us qs b.gr r.gu r.gv r.gc r.gok=0)
section
variable(dep:Nat){H:Heap}(hF:Fr H){rb:Ref}{us0:List Clear}{qs:List Quota}{gr0:Int}{b:Book}(hb:BookAt H rb us0 qs gr0 b)(hok:BookOk b)(hul:us0.length<1000000)(hql:qs.length<1000000)
include hF hb hok hul hql
theorem O7(k:UInt8)(u:Int)(a_1:UInt8)(a_2:UInt8)(a_3:UInt32)(a_4:UInt8)(a_5:Int)(a_6:UInt8)(a_7:UInt32)(a_8:UInt8)(a_9:Int)(a_10:Int)(a_11:UInt8)(a_12:UInt32)(a_13:UInt8)(a_14:Int)(a_15:UInt8)(a_16:UInt32)(c g1:Int)(v:UInt8)(w:UInt32)(o:Bool){x:AV}{al:List Int}(hx:Sl 1 (rows al) x) :
 ∃H',limt env dep (.fn 145) [.ptr rb 0 0,.agg [a8 k,aI u,a8 a_1,a8 a_2,a32 a_3,a8 a_4,aI a_5,a8 a_6,a32 a_7,a8 a_8,aI a_9,aI a_10,a8 a_11,a32 a_12,a8 a_13,aI a_14,a8 a_15,a32 a_16,x,aI c,aI g1,a8 v,a32 w,aB o]] H=some (aB (Cu us0 qs gr0 b ⟨k,u,(⟨a_1,⟨a_2,a_3,a_4⟩,a_5,⟨⟨⟨a_6,a_7,a_8⟩,a_9⟩,a_10⟩,⟨⟨a_11,a_12,a_13⟩,a_14⟩,⟨a_15,a_16⟩,al⟩:Opn),c,g1,v,w,o⟩),H')∧Grow H H':=by
 refine dR (fn:=Tryz.f145) (c:=ow) (by kernel_rfl) (by kernel_rfl) (by kernel_rfl) (by kernel_rfl) (by kernel_rfl) ?_
 refine tf _ _ _ _ _ fun g=>?_
 have hg1 : ∀b1:Blk,Grow H ((⟨dep+1,3,H.gen (dep+1) 3,0⟩,some b1) :: H):=fun b1=>Grow.cons hF _ _ _
 have hL:=GH (dep+1) (hg1 ⟨24,[.agg [a8 k,aI u,a8 a_1,a8 a_2,a32 a_3,a8 a_4,aI a_5,a8 a_6,a32 a_7,a8 a_8,aI a_9,aI a_10,a8 a_11,a32 a_12,a8 a_13,aI a_14,a8 a_15,a32 a_16,x,aI c,aI g1,a8 v,a32 w,aB o]],false,false⟩).fr (hb.grow (hg1 _)) hok hul hql a_2 a_3
 simp[af,ah,ad,ae,ab, *,oD,hx.r]
 refine kY (by kernel_rfl) hL fun H2 hG=>?_
 have hG2:=(hg1 _).trans hG
 have hbx:=hG.old ⟨dep+1,3,H.gen (dep+1) 3,0⟩ _ (by simp;rfl)
 have hb2:=hb.grow hG2
 obtain⟨xu,xq,yu,yq,wu,wq,xr,rs,ru,xh,vh,h1,h2,h3,h4,h5,h6,h7,h8,h9⟩:=hb2.box
 have hlk:=Dd (g:=H2.get) hok.ses h6 ⟨a_2,a_3,a_4⟩
 have hM:=Kg (dep+1) hG2.fr hb2 hok hul hql u a_2 a_3
 have c4:=h4.s.cells
 have c5:=h5.s.cells
 have c8:=h8.cells
 unfold Cu rX pq
 simp only
 generalize yz b qs u a_2 a_3=mn at *
 generalize decide ((useD (dc ⟨a_2,a_3⟩ b.used)).opens<(eY us0 qs gr0 a_2 a_3).opens)=lo at *
 generalize sesD (dc ⟨a_2,a_3,a_4⟩ b.ses)=ss at *
 obtain⟨s1,s2,s3⟩:=ss
 cases s1 with
 | true=>simp[hbx,h1,hlk,hx.r,c4,c5,c8,h2.r,h3.r,Ses.av,hG2]
 | false =>
  simp[hbx,h1,hlk,hx.r,c4,c5,c8,h2.r,h3.r,Ses.av]
  refine kY (by kernel_rfl) hM fun H3 hG3=>?_
  have hG4:=hG2.trans hG3
  cases mn<;>simp[hG4]
theorem O5(k:UInt8)(u:Int)(a_1:UInt8)(a_2:UInt8)(a_3:UInt32)(a_4:UInt8)(a_5:Int)(a_6:UInt8)(a_7:UInt32)(a_8:UInt8)(a_9:Int)(a_10:Int)(a_11:UInt8)(a_12:UInt32)(a_13:UInt8)(a_14:Int)(a_15:UInt8)(a_16:UInt32)(c g1:Int)(v:UInt8)(w:UInt32)(o:Bool){x:AV}{al:List Int}(hx:Sl 1 (rows al) x)(hal:al.length<1000000) :
 ∃H',limt env dep (.fn 149) [.ptr rb 0 0,.agg [a8 k,aI u,a8 a_1,a8 a_2,a32 a_3,a8 a_4,aI a_5,a8 a_6,a32 a_7,a8 a_8,aI a_9,aI a_10,a8 a_11,a32 a_12,a8 a_13,aI a_14,a8 a_15,a32 a_16,x,aI c,aI g1,a8 v,a32 w,aB o]] H=some (aB (Ct us0 qs gr0 b ⟨k,u,(⟨a_1,⟨a_2,a_3,a_4⟩,a_5,⟨⟨⟨a_6,a_7,a_8⟩,a_9⟩,a_10⟩,⟨⟨a_11,a_12,a_13⟩,a_14⟩,⟨a_15,a_16⟩,al⟩:Opn),c,g1,v,w,o⟩),H')∧Grow H H':=by
 refine dR (fn:=Tryz.f149) (c:=ot) (by kernel_rfl) (by kernel_rfl) (by kernel_rfl) (by kernel_rfl) (by kernel_rfl) ?_
 refine td _ _ _ _ _ fun g=>?_
 have hgr : ∀b1 b2:Blk,Grow H ((⟨dep+1,5,H.gen (dep+1) 5,0⟩,some b2) :: (⟨dep+1,3,H.gen (dep+1) 3,0⟩,some b1) :: H):=fun b1 b2=>⟨by simp(maxDischargeDepth:=12) [Heap.an,aq,aj,Fr.nil,ax,af,ah,ad,ae,ao,ak,ab, *],fun q c hq=>by
  have lq:(H.get q).isSome=true:=by rw[hq];rfl
  simp[af hF lq,hq]⟩
 obtain⟨xu,xq,yu,yq,wu,wq,xr,rs,ru,xh,vh,h1,h2,h3,h4,h5,h6,h7,h8,h9⟩:=hb.box
 have l1:(H.get rb).isSome=true:=by rw[h1];rfl
 have l6:(H.get rs).isSome=true:=by rw[h6];rfl
 have c4:=h4.s.cells
 have c5:=h5.s.cells
 have c8:=h8.cells
 have hlk:=fun(H':Heap)(h:H'.get rs=some (ba (cT hanK b.ses)))=>Dd (g:=H'.get) hok.ses h ⟨a_2,a_3,a_4⟩
 unfold Ct rX pq
 simp only
 generalize hss:sesD (dc ⟨a_2,a_3,a_4⟩ b.ses)=ss at *
 obtain⟨s1,s2,s3⟩:=ss
 simp[af,ah,ad,ae,ab, *,oB,hx.r,h1,h6,hlk,Ses.av]
 refine kY (by kernel_rfl) (GH (dep+1) (hgr _ _).fr (hb.grow (hgr _ _)) hok hul hql _ _) fun H4 hG=>?_
 have hG2:=(hgr _ _).trans hG
 have b3:=hG.old ⟨dep+1,3,H.gen (dep+1) 3,0⟩ _ (by simp;rfl)
 have b5:=hG.old ⟨dep+1,5,H.gen (dep+1) 5,0⟩ _ (by simp;rfl)
 have hb4:=hb.grow hG2
 have hM:=A7 (by kernel_rfl) (Kg (dep+1) hG.fr hb4 hok hul hql s2 a_2 a_3) rfl
 have hV:=A7 (by kernel_rfl) (D2 (dep+1) hG.fr hb4 hok hul hql a_1 a_2 a_3 a_4 a_5 a_6 a_7 a_8 a_9 a_10 a_11 a_12 a_13 a_14 a_15 a_16 hx hal) rfl
 generalize yz b qs s2 a_2 a_3=mn at *
 generalize decide ((useD (dc ⟨a_2,a_3⟩ b.used)).opens<(eY us0 qs gr0 a_2 a_3).opens)=lo at *
 generalize decide ((useD (dc ⟨a_2,a_3⟩ b.used)).ops<(eY us0 qs gr0 a_2 a_3).ops)=lp at *
 generalize rL us0 qs gr0 b (⟨a_1,⟨a_2,a_3,a_4⟩,a_5,⟨⟨⟨a_6,a_7,a_8⟩,a_9⟩,a_10⟩,⟨⟨a_11,a_12,a_13⟩,a_14⟩,⟨a_15,a_16⟩,al⟩:Opn)=ve at *
 have hH4:=hG.fr
 clear hb hb4 h4 h5 h8 hok hlk
 cases s1 with
 | false=>simp[b3,b5,hx.r,kO,hG2]
 | true =>
 cases mn with
 | false=>simp[b3,b5,hx.r,kO,hM,hG2]
 | true =>
 by_cases he:a_5=IntKind.i64.wrap (s3+1)
 ·subst he
  cases lp with
  | false=>simp[b3,b5,hx.r,kO,hM,hG2]
  | true=>simp[b3,b5,hx.r,kO,hM,hV,hG2]
 ·simp[b3,b5,hx.r,kO,hM,he,hG2]
theorem O3(k:UInt8)(u:Int)(a_1:UInt8)(a_2:UInt8)(a_3:UInt32)(a_4:UInt8)(a_5:Int)(a_6:UInt8)(a_7:UInt32)(a_8:UInt8)(a_9:Int)(a_10:Int)(a_11:UInt8)(a_12:UInt32)(a_13:UInt8)(a_14:Int)(a_15:UInt8)(a_16:UInt32)(c g1:Int)(v:UInt8)(w:UInt32)(o:Bool){x:AV}{al:List Int}(hx:Sl 1 (rows al) x) :
 ∃H',limt env dep (.fn 151) [.ptr rb 0 0,.agg [a8 k,aI u,a8 a_1,a8 a_2,a32 a_3,a8 a_4,aI a_5,a8 a_6,a32 a_7,a8 a_8,aI a_9,aI a_10,a8 a_11,a32 a_12,a8 a_13,aI a_14,a8 a_15,a32 a_16,x,aI c,aI g1,a8 v,a32 w,aB o]] H=some (aB (Ba qs b ⟨k,u,(⟨a_1,⟨a_2,a_3,a_4⟩,a_5,⟨⟨⟨a_6,a_7,a_8⟩,a_9⟩,a_10⟩,⟨⟨a_11,a_12,a_13⟩,a_14⟩,⟨a_15,a_16⟩,al⟩:Opn),c,g1,v,w,o⟩),H')∧Grow H H':=by
 refine dR (fn:=Tryz.f151) (c:=oo) (by kernel_rfl) (by kernel_rfl) (by kernel_rfl) (by kernel_rfl) (by kernel_rfl) ?_
 refine ta _ _ _ _ _ fun g=>?_
 obtain⟨xu,xq,yu,yq,wu,wq,xr,rs,ru,xh,vh,h1,h2,h3,h4,h5,h6,h7,h8,h9⟩:=hb.box
 have l1:(H.get rb).isSome=true:=by rw[h1];rfl
 have c4:=fun b1=>(h4.s.cons hF (dep+1) 3 (some b1)).r
 have c5:=fun b1=>(h5.s.cons hF (dep+1) 3 (some b1)).r
 have d4:=h4.s.cells
 have d5:=h5.s.cells
 have d8:=h8.cells
 have hfin : ∀b1 b2:Blk,Grow H ((⟨dep+1,5,H.gen (dep+1) 5,0⟩,some b2) :: (⟨dep+1,3,H.gen (dep+1) 3,0⟩,some b1) :: H):=fun b1 b2=>⟨by simp(maxDischargeDepth:=12) [Heap.an,aq,aj,Fr.nil,ax,af,ah,ad,ae,ao,ak,ab, *],fun q c hq=>by
  have lq:(H.get q).isSome=true:=by rw[hq];rfl
  simp[af hF lq,hq]⟩
 unfold Ba
 simp only
 have hfew:=hok.few
 by_cases he:q0 b.us qs b.gr g1 v w o=0
 ·obtain⟨yy,hyy,hA⟩:=Dg (gr:=b.gr) h4.s.sl h5.s.sl (by omega) (by omega) g1 v w o he
  have z4:=(lQ.grow h4 (Grow.cons hF (dep+1) 3 ⟨24,[.agg [a8 k,aI u,a8 a_1,a8 a_2,a32 a_3,a8 a_4,aI a_5,a8 a_6,a32 a_7,a8 a_8,aI a_9,aI a_10,a8 a_11,a32 a_12,a8 a_13,aI a_14,a8 a_15,a32 a_16,x,aI c,aI g1,a8 v,a32 w,aB o]],false,false⟩)).refs 6
  have z5:=(lQ.grow h5 (Grow.cons hF (dep+1) 3 ⟨24,[.agg [a8 k,aI u,a8 a_1,a8 a_2,a32 a_3,a8 a_4,aI a_5,a8 a_6,a32 a_7,a8 a_8,aI a_9,aI a_10,a8 a_11,a32 a_12,a8 a_13,aI a_14,a8 a_15,a32 a_16,x,aI c,aI g1,a8 v,a32 w,aB o]],false,false⟩)).refs 6
  have hyr:=hyy.r
  clear hb h4 h5 h8 hok
  simp[af,ah,ad,ae,ab, *,lj,hx.r,h2.r,h3.r,sS]
  done
 ·have hA:=FL (gr:=b.gr) h4.s.sl h5.s.sl (by omega) (by omega) g1 v w o he
  clear hb h4 h5 h8 hok
  simp[af,ah,ad,ae,ab, *,lj,hx.r,h2.r,h3.r]
end
end Go.Proofs.YtmkmimgokagimaaGreat
namespace Go.Proofs.YtmkmimgokagimaaGreat
open Go.Ab
attribute [local simp] bn aV aF bj bh keep thr bD aX bc dx dw cN bE aD ct List.take_of_length_le
def Rcd.val(r:Rcd)(x:AV):AV := .agg [a8 r.kind,aI r.user,a8 r.op.kind,a8 r.op.h.lv,a32 r.op.h.cats,a8 r.op.h.num,aI r.op.serial,a8 r.op.s.f.h.lv,a32 r.op.s.f.h.cats,a8 r.op.s.f.h.num,aI r.op.s.f.n,aI r.op.s.many,
 a8 r.op.a.h.lv,a32 r.op.a.h.cats,a8 r.op.a.h.num,aI r.op.a.n,a8 r.op.to.lv,a32 r.op.to.cats,x,aI r.code,aI r.gu,a8 r.gv,a32 r.gc,aB r.gok]
def okRc(p:Rcd × AV):Prop:=Sl 1 (rows p.1.op.l) p.2∧p.1.op.l.length<1000000
def dv(l:List (Rcd × AV)):List AV:=l.map fun p=>p.1.val p.2
@[simp] theorem lN(l:List (Rcd × AV)):(dv l).length=l.length:=by simp[dv]
theorem Eb{p:Rcd × AV}(hp:okRc p):limf env 82 [p.1.val p.2]=some (aI (if jd p.1 then 0 else 8)):=by
 obtain⟨⟨k,u,⟨a_1,⟨a_2,a_3,a_4⟩,a_5,⟨⟨⟨a_6,a_7,a_8⟩,a_9⟩,a_10⟩,⟨⟨a_11,a_12,a_13⟩,a_14⟩,⟨a_15,a_16⟩,l⟩,c,g1,v,w,o⟩,x⟩:=p
 obtain⟨hx,hl⟩:=hp
 simp only at hx hl
 refine az (fn:=Tryz.f82) (c:=pK) rfl (by kernel_rfl) (by kernel_rfl) (by kernel_rfl) (by kernel_rfl) ?_;refine vk _ _ _ fun g=>?_
 have hB:=yn k u a_1 a_2 a_3 a_4 a_5 a_6 a_7 a_8 a_9 a_10 a_11 a_12 a_13 a_14 a_15 a_16 c g1 v w o hx (by omega)
 have hr:=hx.r
 have hc:recZ ⟨k,u,(⟨a_1,⟨a_2,a_3,a_4⟩,a_5,⟨⟨⟨a_6,a_7,a_8⟩,a_9⟩,a_10⟩,⟨⟨a_11,a_12,a_13⟩,a_14⟩,⟨a_15,a_16⟩,l⟩:Opn),c,g1,v,w,o⟩ = .isl 1 [a8 k] (some 1) ∨∃es,recZ ⟨k,u,(⟨a_1,⟨a_2,a_3,a_4⟩,a_5,⟨⟨⟨a_6,a_7,a_8⟩,a_9⟩,a_10⟩,⟨⟨a_11,a_12,a_13⟩,a_14⟩,⟨a_15,a_16⟩,l⟩:Opn),c,g1,v,w,o⟩ = .isl 1 es none:=by
  unfold recZ
  repeat' (split)
  all_goals (first | exact .inl rfl | exact .inr ⟨_,rfl⟩)
 generalize recZ ⟨k,u,(⟨a_1,⟨a_2,a_3,a_4⟩,a_5,⟨⟨⟨a_6,a_7,a_8⟩,a_9⟩,a_10⟩,⟨⟨a_11,a_12,a_13⟩,a_14⟩,⟨a_15,a_16⟩,l⟩:Opn),c,g1,v,w,o⟩=z at *
 unfold Rcd.val
 generalize jd ⟨k,u,(⟨a_1,⟨a_2,a_3,a_4⟩,a_5,⟨⟨⟨a_6,a_7,a_8⟩,a_9⟩,a_10⟩,⟨⟨a_11,a_12,a_13⟩,a_14⟩,⟨a_15,a_16⟩,l⟩:Opn),c,g1,v,w,o⟩=b at *
 rcases hc with rfl | ⟨es,rfl⟩<;>cases b<;>simp[af,ah,ad,ae,ab, *,pZ]
def rS:AV→AV
 | .isl z [] _ => .isl z [] (some 0)
 | .isl z es _ => .isl z es none
 | x=>x
theorem C7(z:Nat){es:List AV}(c:Option Nat)(h:es≠[]):rS (.isl z es c) = .isl z es none:=by
 cases es with
 | nil=>exact absurd rfl h
 | cons _ _=>rfl
theorem JY(a_1:UInt8)(a_2:UInt8)(a_3:UInt32)(a_4:UInt8)(a_5:Int)(a_6:UInt8)(a_7:UInt32)(a_8:UInt8)(a_9:Int)(a_10:Int)(a_11:UInt8)(a_12:UInt32)(a_13:UInt8)(a_14:Int)(a_15:UInt8)(a_16:UInt32){x:AV}{l:List Int}(hx:Sl 1 (rows l) x)(hl:l.length<1000000) : ∃y,y=rS x∧Sl 1 (rows l) y∧limf env 108 [.agg [a8 a_1,a8 a_2,a32 a_3,a8 a_4,aI a_5,a8 a_6,a32 a_7,a8 a_8,aI a_9,aI a_10,a8 a_11,a32 a_12,a8 a_13,aI a_14,a8 a_15,a32 a_16,x]]=some (.agg [a8 a_1,a8 a_2,a32 a_3,a8 a_4,aI a_5,a8 a_6,a32 a_7,a8 a_8,aI a_9,aI a_10,a8 a_11,a32 a_12,a8 a_13,aI a_14,a8 a_15,a32 a_16,y]):=by
 have hC:=AF hx (by omega) (by omega)
 rcases hx with ⟨rfl,h⟩ | ⟨cc,rfl,hcc⟩
 ·refine⟨aNil,rfl,.inl ⟨rfl,h⟩,?_⟩
  refine az (fn:=Tryz.f108) (c:=qz) rfl (by kernel_rfl) (by kernel_rfl) (by kernel_rfl) (by kernel_rfl) ?_;refine s8 _ _ _ fun g=>?_
  rw[Ju]at hC
  simp[af,ah,ad,ae,ab, *,qC]
 ·by_cases he:rows l=[]
  ·rw[he]at hC hcc ⊢
   refine⟨.isl 1 [] (some 0),rfl,.inr ⟨_,rfl,by simp⟩,?_⟩
   refine az (fn:=Tryz.f108) (c:=qz) rfl (by kernel_rfl) (by kernel_rfl) (by kernel_rfl) (by kernel_rfl) ?_;refine s8 _ _ _ fun g=>?_
   rw[EX]at hC
   simp[af,ah,ad,ae,ab, *,qC]
  ·refine⟨.isl 1 (rows l) none,(C7 1 cc he).symm,Sl.mk _ _,?_⟩
   rw[mF 1 cc he]at hC
   have hlen:(rows l).length=l.length:=by simp
   generalize rows l=rw' at *
   refine az (fn:=Tryz.f108) (c:=qz) rfl (by kernel_rfl) (by kernel_rfl) (by kernel_rfl) (by kernel_rfl) ?_;refine s8 _ _ _ fun g=>?_
   simp[af,ah,ad,ae,ab, *,qC]
theorem K7{p:Rcd × AV}(hp:okRc p) : ∃y,y=rS p.2∧Sl 1 (rows p.1.op.l) y∧limf env 161 [p.1.val p.2]=some (p.1.val y):=by
 obtain⟨⟨k,u,⟨a_1,⟨a_2,a_3,a_4⟩,a_5,⟨⟨⟨a_6,a_7,a_8⟩,a_9⟩,a_10⟩,⟨⟨a_11,a_12,a_13⟩,a_14⟩,⟨a_15,a_16⟩,l⟩,c,g1,v,w,o⟩,x⟩:=p
 obtain⟨hx,hl⟩:=hp
 simp only at hx hl
 obtain⟨y,ht,hy,hT⟩:=JY a_1 a_2 a_3 a_4 a_5 a_6 a_7 a_8 a_9 a_10 a_11 a_12 a_13 a_14 a_15 a_16 hx hl
 refine⟨y,ht,hy,?_⟩
 clear ht
 refine az (fn:=Tryz.f161) (c:=qS) rfl (by kernel_rfl) (by kernel_rfl) (by kernel_rfl) (by kernel_rfl) ?_;refine xd _ _ _ fun g=>?_
 unfold Rcd.val
 have hr:=hx.r
 have hr2:=hy.r
 simp[af,ah,ad,ae,ab, *,q6]
end Go.Proofs.YtmkmimgokagimaaGreat
