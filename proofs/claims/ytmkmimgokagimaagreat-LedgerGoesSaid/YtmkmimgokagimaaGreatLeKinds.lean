/-
  What a log tells, under way: whether a record fits. No statement of a seat is proved here.
-/
import Derived.Test.YtmkmimgokagimaaGreatLeBook
set_option linter.unusedVariables false
set_option linter.unusedSimpArgs false
set_option linter.unusedSectionVars false
set_option linter.unnecessarySimpa false
set_option maxRecDepth 100000
namespace Go.Proofs.YtmkmimgokagimaaGreat
open Go.Ab
attribute [local simp] bx aZ aL bw bu keep thr bD bh bq dC dB cP bF aE cC List.take_of_length_le
theorem sP(g:Get)(a b:List Ref):ig g (a++b)=(ig g a&&ig g b):=by
 unfold ig;rw[List.all_append]
theorem AR{f:FuncId}(hm:(env.mode f == 2)=true){dep:Nat}{H:Heap}{args:List AV}{y:AV}(h : ∃H',limt env dep (.fn f) args H=some (y,H')∧Grow H H')(hf:flat depth y=true)(r:Ref) :
 jn env true (limf env) (limt env dep) H r (some (.fn (.func f) [] [])) args=some (y,H):=by
 obtain⟨H',h1,h2⟩:=h
 have hm':env.mode f=2:=by simpa using hm
 have e:([]++args++[]:List AV)=args:=by simp
 have hs:env.sm.f H H'=true:=B7 h2.old
 simp only[jn,ja,lS,if_pos hm',e,h1,nRes,orW,Option.map_none,cond_true]
 show nH true env.sm H (some (y,H'))=_
 simp only[nH,hf,hs,Bool.or_true,Bool.and_true,if_true]
@[simp]theorem pB_v(u:Value)(y:AV):pB (.v u) y=true:=rfl
@[simp]theorem pB_u(y:AV):pB AV.undef y=true:=rfl
def tf(b:Book)(o:Opn):Ses:=sesD (fj o.h b.ses)
def rq(b:Book)(o:Opn):Use:=useD (fj ⟨o.h.lv,o.h.cats⟩ b.used)
def Eo(us0:List Clear)(qs:List Quota)(gr0:Int)(b:Book)(r:Rcd):Bool :=
 !(tf b r.op).o&&(yl b qs r.user r.op.h.lv r.op.h.cats&&decide ((rq b r.op).opens<(pa us0 qs gr0 r.op.h.lv r.op.h.cats).opens))
def En(us0:List Clear)(qs:List Quota)(gr0:Int)(b:Book)(r:Rcd):Bool :=
 (tf b r.op).o&&(yl b qs (tf b r.op).u r.op.h.lv r.op.h.cats&&(decide (r.op.serial=IntKind.i64.wrap ((tf b r.op).s+1))&&(decide ((rq b r.op).ops<(pa us0 qs gr0 r.op.h.lv r.op.h.cats).ops)&&decide (r.code=uV us0 qs gr0 b r.op))))
def Em(qs:List Quota)(b:Book)(r:Rcd):Bool:=decide (ur b.us qs b.gr r.gu r.gv r.gc r.gok=0)
section
variable(dep:Nat){H:Heap}(hF:Fr H){rb:Ref}{us0:List Clear}{qs:List Quota}{gr0:Int}{b:Book}(hb:BookAt H rb us0 qs gr0 b)(hok:BookOk b)(hul:us0.length<1000000)(hql:qs.length<1000000)
include hF hb hok hul hql
theorem J6(k:UInt8)(u:Int)(a_1:UInt8)(a_2:UInt8)(a_3:UInt32)(a_4:UInt8)(a_5:Int)(a_6:UInt8)(a_7:UInt32)(a_8:UInt8)(a_9:Int)(a_10:Int)(a_11:UInt8)(a_12:UInt32)(a_13:UInt8)(a_14:Int)(a_15:UInt8)(a_16:UInt32)(c g1:Int)(v:UInt8)(w:UInt32)(o:Bool){x:AV}{al:List Int}(hx:Sl 1 (rows al) x) :
 ∃H',limt env dep (.fn 145) [.ptr rb 0 0,.agg [a8 k,aI u,a8 a_1,a8 a_2,a32 a_3,a8 a_4,aI a_5,a8 a_6,a32 a_7,a8 a_8,aI a_9,aI a_10,a8 a_11,a32 a_12,a8 a_13,aI a_14,a8 a_15,a32 a_16,x,aI c,aI g1,a8 v,a32 w,aB o]] H=some (aB (Eo us0 qs gr0 b ⟨k,u,(⟨a_1,⟨a_2,a_3,a_4⟩,a_5,⟨⟨⟨a_6,a_7,a_8⟩,a_9⟩,a_10⟩,⟨⟨a_11,a_12,a_13⟩,a_14⟩,⟨a_15,a_16⟩,al⟩:Opn),c,g1,v,w,o⟩),H')∧Grow H H':=by
 refine eg (fn:=Tryz.f145) (c:=oy) (by kernel_rfl) (by kernel_rfl) (by kernel_rfl) (by kernel_rfl) (by kernel_rfl) ?_
 refine ta _ _ _ _ _ fun g=>?_
 have hg1 : ∀b1:Blk,Grow H ((⟨dep+1,3,H.gen (dep+1) 3,0⟩,some b1) :: H):=fun b1=>Grow.cons hF _ _ _
 have hL:=Gq (dep+1) (hg1 ⟨24,[.agg [a8 k,aI u,a8 a_1,a8 a_2,a32 a_3,a8 a_4,aI a_5,a8 a_6,a32 a_7,a8 a_8,aI a_9,aI a_10,a8 a_11,a32 a_12,a8 a_13,aI a_14,a8 a_15,a32 a_16,x,aI c,aI g1,a8 v,a32 w,aB o]],false,false⟩).fr (hb.grow (hg1 _)) hok hul hql a_2 a_3
 simp[af,ah,ad,ae,ab, *,oF,hx.r]
 refine jf (by kernel_rfl) hL fun H2 hG=>?_
 have hG2:=(hg1 _).trans hG
 have hbx:=hG.old ⟨dep+1,3,H.gen (dep+1) 3,0⟩ _ (by simp;rfl)
 have hb2:=hb.grow hG2
 obtain⟨xu,xq,yu,yq,wu,wq,xr,rs,ru,xh,vh,h1,h2,h3,h4,h5,h6,h7,h8,h9⟩:=hb2.box
 have hlk:=CO (g:=H2.get) hok.ses h6 ⟨a_2,a_3,a_4⟩
 have hM:=J0 (dep+1) hG2.fr hb2 hok hul hql u a_2 a_3
 have c4:=h4.s.cells
 have c5:=h5.s.cells
 have c8:=h8.cells
 unfold Eo tf rq
 simp only
 generalize yl b qs u a_2 a_3=mn at *
 generalize decide ((useD (fj ⟨a_2,a_3⟩ b.used)).opens<(pa us0 qs gr0 a_2 a_3).opens)=lo at *
 generalize sesD (fj ⟨a_2,a_3,a_4⟩ b.ses)=ss at *
 obtain⟨s1,s2,s3⟩:=ss
 cases s1 with
 | true=>simp[hbx,h1,hlk,hx.r,c4,c5,c8,h2.r,h3.r,Ses.av,hG2]
 | false =>
  simp[hbx,h1,hlk,hx.r,c4,c5,c8,h2.r,h3.r,Ses.av]
  refine jf (by kernel_rfl) hM fun H3 hG3=>?_
  have hG4:=hG2.trans hG3
  cases mn<;>simp[hG4]
theorem J5(k:UInt8)(u:Int)(a_1:UInt8)(a_2:UInt8)(a_3:UInt32)(a_4:UInt8)(a_5:Int)(a_6:UInt8)(a_7:UInt32)(a_8:UInt8)(a_9:Int)(a_10:Int)(a_11:UInt8)(a_12:UInt32)(a_13:UInt8)(a_14:Int)(a_15:UInt8)(a_16:UInt32)(c g1:Int)(v:UInt8)(w:UInt32)(o:Bool){x:AV}{al:List Int}(hx:Sl 1 (rows al) x)(hal:al.length<1000000) :
 ∃H',limt env dep (.fn 149) [.ptr rb 0 0,.agg [a8 k,aI u,a8 a_1,a8 a_2,a32 a_3,a8 a_4,aI a_5,a8 a_6,a32 a_7,a8 a_8,aI a_9,aI a_10,a8 a_11,a32 a_12,a8 a_13,aI a_14,a8 a_15,a32 a_16,x,aI c,aI g1,a8 v,a32 w,aB o]] H=some (aB (En us0 qs gr0 b ⟨k,u,(⟨a_1,⟨a_2,a_3,a_4⟩,a_5,⟨⟨⟨a_6,a_7,a_8⟩,a_9⟩,a_10⟩,⟨⟨a_11,a_12,a_13⟩,a_14⟩,⟨a_15,a_16⟩,al⟩:Opn),c,g1,v,w,o⟩),H')∧Grow H H':=by
 refine eg (fn:=Tryz.f149) (c:=ow) (by kernel_rfl) (by kernel_rfl) (by kernel_rfl) (by kernel_rfl) (by kernel_rfl) ?_
 refine s8 _ _ _ _ _ fun g=>?_
 have hgr : ∀b1 b2:Blk,Grow H ((⟨dep+1,5,H.gen (dep+1) 5,0⟩,some b2) :: (⟨dep+1,3,H.gen (dep+1) 3,0⟩,some b1) :: H):=fun b1 b2=>⟨by simp(maxDischargeDepth:=12) [Heap.an,aq,aj,Fr.nil,au,af,ah,ad,ae,ao,ak,ab, *],fun q c hq=>by
  have lq:(H.get q).isSome=true:=by rw[hq];rfl
  simp[af hF lq,hq]⟩
 obtain⟨xu,xq,yu,yq,wu,wq,xr,rs,ru,xh,vh,h1,h2,h3,h4,h5,h6,h7,h8,h9⟩:=hb.box
 have l1:(H.get rb).isSome=true:=by rw[h1];rfl
 have l6:(H.get rs).isSome=true:=by rw[h6];rfl
 have c4:=h4.s.cells
 have c5:=h5.s.cells
 have c8:=h8.cells
 have hlk:=fun(H':Heap)(h:H'.get rs=some (aY (cR hanK b.ses)))=>CO (g:=H'.get) hok.ses h ⟨a_2,a_3,a_4⟩
 unfold En tf rq
 simp only
 generalize hss:sesD (fj ⟨a_2,a_3,a_4⟩ b.ses)=ss at *
 obtain⟨s1,s2,s3⟩:=ss
 simp[af,ah,ad,ae,ab, *,oD,hx.r,h1,h6,hlk,Ses.av]
 refine jf (by kernel_rfl) (Gq (dep+1) (hgr _ _).fr (hb.grow (hgr _ _)) hok hul hql _ _) fun H4 hG=>?_
 have hG2:=(hgr _ _).trans hG
 have b3:=hG.old ⟨dep+1,3,H.gen (dep+1) 3,0⟩ _ (by simp;rfl)
 have b5:=hG.old ⟨dep+1,5,H.gen (dep+1) 5,0⟩ _ (by simp;rfl)
 have hb4:=hb.grow hG2
 have hM:=AR (by kernel_rfl) (J0 (dep+1) hG.fr hb4 hok hul hql s2 a_2 a_3) rfl
 have hV:=AR (by kernel_rfl) (DC (dep+1) hG.fr hb4 hok hul hql a_1 a_2 a_3 a_4 a_5 a_6 a_7 a_8 a_9 a_10 a_11 a_12 a_13 a_14 a_15 a_16 hx hal) rfl
 generalize yl b qs s2 a_2 a_3=mn at *
 generalize decide ((useD (fj ⟨a_2,a_3⟩ b.used)).opens<(pa us0 qs gr0 a_2 a_3).opens)=lo at *
 generalize decide ((useD (fj ⟨a_2,a_3⟩ b.used)).ops<(pa us0 qs gr0 a_2 a_3).ops)=lp at *
 generalize uV us0 qs gr0 b (⟨a_1,⟨a_2,a_3,a_4⟩,a_5,⟨⟨⟨a_6,a_7,a_8⟩,a_9⟩,a_10⟩,⟨⟨a_11,a_12,a_13⟩,a_14⟩,⟨a_15,a_16⟩,al⟩:Opn)=ve at *
 have hH4:=hG.fr
 clear hb hb4 h4 h5 h8 hok hlk
 cases s1 with
 | false=>simp[b3,b5,hx.r,kQ,hG2]
 | true =>
 cases mn with
 | false=>simp[b3,b5,hx.r,kQ,hM,hG2]
 | true =>
 by_cases he:a_5=IntKind.i64.wrap (s3+1)
 ·subst he
  cases lp with
  | false=>simp[b3,b5,hx.r,kQ,hM,hG2]
  | true=>simp[b3,b5,hx.r,kQ,hM,hV,hG2]
 ·simp[b3,b5,hx.r,kQ,hM,he,hG2]
theorem J4(k:UInt8)(u:Int)(a_1:UInt8)(a_2:UInt8)(a_3:UInt32)(a_4:UInt8)(a_5:Int)(a_6:UInt8)(a_7:UInt32)(a_8:UInt8)(a_9:Int)(a_10:Int)(a_11:UInt8)(a_12:UInt32)(a_13:UInt8)(a_14:Int)(a_15:UInt8)(a_16:UInt32)(c g1:Int)(v:UInt8)(w:UInt32)(o:Bool){x:AV}{al:List Int}(hx:Sl 1 (rows al) x) :
 ∃H',limt env dep (.fn 151) [.ptr rb 0 0,.agg [a8 k,aI u,a8 a_1,a8 a_2,a32 a_3,a8 a_4,aI a_5,a8 a_6,a32 a_7,a8 a_8,aI a_9,aI a_10,a8 a_11,a32 a_12,a8 a_13,aI a_14,a8 a_15,a32 a_16,x,aI c,aI g1,a8 v,a32 w,aB o]] H=some (aB (Em qs b ⟨k,u,(⟨a_1,⟨a_2,a_3,a_4⟩,a_5,⟨⟨⟨a_6,a_7,a_8⟩,a_9⟩,a_10⟩,⟨⟨a_11,a_12,a_13⟩,a_14⟩,⟨a_15,a_16⟩,al⟩:Opn),c,g1,v,w,o⟩),H')∧Grow H H':=by
 refine eg (fn:=Tryz.f151) (c:=ov) (by kernel_rfl) (by kernel_rfl) (by kernel_rfl) (by kernel_rfl) (by kernel_rfl) ?_
 refine s7 _ _ _ _ _ fun g=>?_
 obtain⟨xu,xq,yu,yq,wu,wq,xr,rs,ru,xh,vh,h1,h2,h3,h4,h5,h6,h7,h8,h9⟩:=hb.box
 have l1:(H.get rb).isSome=true:=by rw[h1];rfl
 have c4:=fun b1=>(h4.s.cons hF (dep+1) 3 (some b1)).r
 have c5:=fun b1=>(h5.s.cons hF (dep+1) 3 (some b1)).r
 have d4:=h4.s.cells
 have d5:=h5.s.cells
 have d8:=h8.cells
 have hfin : ∀b1 b2:Blk,Grow H ((⟨dep+1,5,H.gen (dep+1) 5,0⟩,some b2) :: (⟨dep+1,3,H.gen (dep+1) 3,0⟩,some b1) :: H):=fun b1 b2=>⟨by simp(maxDischargeDepth:=12) [Heap.an,aq,aj,Fr.nil,au,af,ah,ad,ae,ao,ak,ab, *],fun q c hq=>by
  have lq:(H.get q).isSome=true:=by rw[hq];rfl
  simp[af hF lq,hq]⟩
 unfold Em
 simp only
 have hfew:=hok.few
 by_cases he:ur b.us qs b.gr g1 v w o=0
 ·obtain⟨yy,hyy,hA⟩:=CR (gr:=b.gr) h4.s.sl h5.s.sl (by omega) (by omega) g1 v w o he
  have z4:=(lR.grow h4 (Grow.cons hF (dep+1) 3 ⟨24,[.agg [a8 k,aI u,a8 a_1,a8 a_2,a32 a_3,a8 a_4,aI a_5,a8 a_6,a32 a_7,a8 a_8,aI a_9,aI a_10,a8 a_11,a32 a_12,a8 a_13,aI a_14,a8 a_15,a32 a_16,x,aI c,aI g1,a8 v,a32 w,aB o]],false,false⟩)).refs 6
  have z5:=(lR.grow h5 (Grow.cons hF (dep+1) 3 ⟨24,[.agg [a8 k,aI u,a8 a_1,a8 a_2,a32 a_3,a8 a_4,aI a_5,a8 a_6,a32 a_7,a8 a_8,aI a_9,aI a_10,a8 a_11,a32 a_12,a8 a_13,aI a_14,a8 a_15,a32 a_16,x,aI c,aI g1,a8 v,a32 w,aB o]],false,false⟩)).refs 6
  have hyr:=hyy.r
  clear hb h4 h5 h8 hok
  simp[af,ah,ad,ae,ab, *,lu,hx.r,h2.r,h3.r,sP]
  done
 ·have hA:=Fs (gr:=b.gr) h4.s.sl h5.s.sl (by omega) (by omega) g1 v w o he
  clear hb h4 h5 h8 hok
  simp[af,ah,ad,ae,ab, *,lu,hx.r,h2.r,h3.r]
end
end Go.Proofs.YtmkmimgokagimaaGreat
