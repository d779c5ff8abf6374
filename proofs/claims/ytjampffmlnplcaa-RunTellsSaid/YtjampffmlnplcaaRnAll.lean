/-
  'Rows.RunTellsSaid': the law's run. No conditions.
-/
import Derived.Test.YtjampffmlnplcaaRnCore
set_option linter.unusedVariables false
set_option linter.unusedSimpArgs false
set_option linter.unusedSectionVars false
set_option linter.unnecessarySimpa false
set_option maxRecDepth 100000
namespace Go.Proofs.Ytjampffmlnplcaa
open Go.Ab
attribute [local simp] fK ek iQ own3 iR eo keep thr fL ew eu ky ku dJ List.take_of_length_le
theorem xi(a_1:UInt8)(a_2:UInt8)(a_3:UInt32)(a_4:UInt8)(a_5:Int)(a_6:UInt8)(a_7:UInt32)(a_8:UInt8)(a_9:Int)(a_10:Int)(a_11:UInt8)(a_12:UInt32)(a_13:UInt8)(a_14:Int)(a_15:UInt8)(a_16:UInt32){x:AV}{al:List Int}(hx:Sl 1 (rows al) x)(hl:al.length<1000000000):limf env 25 [.agg [a8 a_1,a8 a_2,a32 a_3,a8 a_4,aI a_5,a8 a_6,a32 a_7,a8 a_8,aI a_9,aI a_10,a8 a_11,a32 a_12,a8 a_13,aI a_14,a8 a_15,a32 a_16,x]]=some (.agg [a8 a_1,a8 a_2,a32 a_3,a8 a_4,aI a_5,a8 a_6,a32 a_7,a8 a_8,aI a_9,aI a_10,a8 a_11,a32 a_12,a8 a_13,aI a_14,a8 a_15,a32 a_16,kU 1 (rows al)]):=by
 refine aC (fn:=Try.f25) (c:=fe) rfl (by kernel_rfl) (by kernel_rfl) (by kernel_rfl) (by kernel_rfl) ?_;refine iX _ _ _ fun g=>?_
 have hlen:=hx.len
 have f2:al.length * 4≤140737488355328:=by omega
 by_cases h:rows al=[]
 ·rw[h]
  simp[ar,au,ae,af,ab, *,dw,hx.r,hx.jo]
 ·rw[ad 1 h]
  have f4:(rows al).length=al.length:=by simp[rows]
  simp[ar,au,ae,af,ab, *,dw,hx.r,hx.jo,appN]
theorem xj(a_1:UInt8)(a_2:UInt8)(a_3:UInt32)(a_4:UInt8)(a_5:Int)(a_6:UInt8)(a_7:UInt32)(a_8:UInt8)(a_9:Int)(a_10:Int)(a_11:UInt8)(a_12:UInt32)(a_13:UInt8)(a_14:Int)(a_15:UInt8)(a_16:UInt32){x y:AV}{al:List Int}(hx:Sl 1 (rows al) x)(hy:Sl 1 (rows al) y)(hl:al.length<1000000000):limf env 34 [.agg [a8 a_1,a8 a_2,a32 a_3,a8 a_4,aI a_5,a8 a_6,a32 a_7,a8 a_8,aI a_9,aI a_10,a8 a_11,a32 a_12,a8 a_13,aI a_14,a8 a_15,a32 a_16,x],.agg [a8 a_1,a8 a_2,a32 a_3,a8 a_4,aI a_5,a8 a_6,a32 a_7,a8 a_8,aI a_9,aI a_10,a8 a_11,a32 a_12,a8 a_13,aI a_14,a8 a_15,a32 a_16,y]]=some (aB true):=by
 refine aC (fn:=Try.f34) (c:=ff) rfl (by kernel_rfl) (by kernel_rfl) (by kernel_rfl) (by kernel_rfl) ?_;refine iY _ _ _ _ fun g=>?_
 have h:=sL hx hy (by omega)
 rw[decide_eq_true rfl]at h
 simp[ar,au,ae,af,ab, *,fk,hx.r,hy.r,eqA,eqFs]
theorem ay(a_1:UInt8)(a_2:UInt32)(a_3:UInt8)(a_4:Int)(a_5:Int)(a_6:UInt8)(a_7:UInt32)(a_8:UInt8)(a_9:Int){x y:AV}{l:List Int}(hx:Sl 1 (rows l) x)(hy:Sl 1 (rows l) y)(hl:l.length<1000000):limf env 30 [.agg [a8 a_1,a32 a_2,a8 a_3,aI a_4,aI a_5,a8 a_6,a32 a_7,a8 a_8,aI a_9,x],.agg [a8 a_1,a32 a_2,a8 a_3,aI a_4,aI a_5,a8 a_6,a32 a_7,a8 a_8,aI a_9,y]]=some (aB true):=by
 have h:=p8 a_1 a_2 a_3 a_4 a_5 a_6 a_7 a_8 a_9 hx hl a_1 a_2 a_3 a_4 a_5 a_6 a_7 a_8 a_9 hy
 rw[decide_eq_true rfl]at h
 exact h
theorem uZ(a_1:UInt8)(a_2:UInt32)(a_3:UInt8)(a_4:Int)(a_5:Int)(a_6:UInt8)(a_7:UInt32)(a_8:UInt8)(a_9:Int){x y:AV}{l:List Int}(hx:Sl 1 (rows l) x)(hy:Sl 1 (rows l) y)(hl:l.length<1000000):limf env 18 [.agg [a8 a_1,a32 a_2,a8 a_3,aI a_4,aI a_5,a8 a_6,a32 a_7,a8 a_8,aI a_9,x],.agg [a8 a_1,a32 a_2,a8 a_3,aI a_4,aI a_5,a8 a_6,a32 a_7,a8 a_8,aI a_9,y]]=some (aB true):=by
 have h:=lG a_1 a_2 a_3 a_4 a_5 a_6 a_7 a_8 a_9 a_1 a_2 a_3 a_4 a_5 a_6 a_7 a_8 a_9 hx hy hl
 rw[decide_eq_true rfl]at h
 exact h
theorem aw:Sl 1 (rows ([]:List Int)) aNil := .inl ⟨rfl,rfl⟩
theorem DJ(a_1:UInt8)(a_2:UInt32)(a_3:UInt8)(a_4:Int)(a_5:Int)(a_6:UInt8)(a_7:UInt32)(a_8:UInt8)(a_9:Int)(n:Int){x y:AV}{l:List Int}(hx:Sl 1 (rows l) x)(hy:Sl 1 (rows l) y)(hl:l.length<1000000)(hR:fR l) :
 ∃i_1 i_2 i_3 i_4 j_1 j_2 j_3 j_4 k e,limf env 20 [.agg [a8 a_1,a32 a_2,a8 a_3,aI a_4,aI a_5,a8 a_6,a32 a_7,a8 a_8,aI a_9,y],aI n]=some (.tup [.agg [a8 i_1,a32 i_2,a8 i_3,aI i_4],.agg [a8 j_1,a32 j_2,a8 j_3,aI j_4],.v (.int .i32 k),aI e])∧limf env 29 [.agg [a8 a_1,a32 a_2,a8 a_3,aI a_4,aI a_5,a8 a_6,a32 a_7,a8 a_8,aI a_9,x],aI n]=some (.tup [.agg [a8 i_1,a32 i_2,a8 i_3,aI i_4],.agg [a8 j_1,a32 j_2,a8 j_3,aI j_4],.v (.int .i32 k),aI e]):=by
 by_cases h:runB (⟨⟨⟨⟨a_1,a_2,a_3⟩,a_4⟩,a_5⟩,⟨⟨a_6,a_7,a_8⟩,a_9⟩,l⟩:Rn)=true∧0≤n∧n<a_5
 ·obtain⟨hb,h0,h1⟩:=h
  have p1:=zn a_1 a_2 a_3 a_4 a_5 a_6 a_7 a_8 a_9 n hy hl hb h0 h1
  have p2:=zq a_1 a_2 a_3 a_4 a_5 a_6 a_7 a_8 a_9 n hx hl hR hb h0 h1
  by_cases hz:n=0
  ·rw[if_pos hz]at p1 p2
   exact⟨_,_,_,_,_,_,_,_,_,_,p1,p2⟩
  ·rw[if_neg hz]at p1 p2
   exact⟨_,_,_,_,_,_,_,_,_,_,p1,p2⟩
 ·exact⟨_,_,_,_,_,_,_,_,_,_,xh a_1 a_2 a_3 a_4 a_5 a_6 a_7 a_8 a_9 n hy hl h,xl a_1 a_2 a_3 a_4 a_5 a_6 a_7 a_8 a_9 n hx hl hR h⟩
theorem DI(a_1:UInt8)(a_2:UInt8)(a_3:UInt32)(a_4:UInt8)(a_5:Int)(a_6:UInt8)(a_7:UInt32)(a_8:UInt8)(a_9:Int)(a_10:Int)(a_11:UInt8)(a_12:UInt32)(a_13:UInt8)(a_14:Int)(a_15:UInt8)(a_16:UInt32){x:AV}{l:List Int}(hx:Sl 1 (rows l) x)(hl:l.length<1000000)(hR:fR l) :
 ∃c_1 c_2 c_3 c_4 c_5 c_6 c_7 c_8 c_9 e,(limf env 23 [.agg [a8 a_1,a8 a_2,a32 a_3,a8 a_4,aI a_5,a8 a_6,a32 a_7,a8 a_8,aI a_9,aI a_10,a8 a_11,a32 a_12,a8 a_13,aI a_14,a8 a_15,a32 a_16,kU 1 (rows l)]]=some (.tup [.agg [a8 c_1,a32 c_2,a8 c_3,aI c_4,aI c_5,a8 c_6,a32 c_7,a8 c_8,aI c_9,aNil],aI e])∧limf env 26 [.agg [a8 a_1,a8 a_2,a32 a_3,a8 a_4,aI a_5,a8 a_6,a32 a_7,a8 a_8,aI a_9,aI a_10,a8 a_11,a32 a_12,a8 a_13,aI a_14,a8 a_15,a32 a_16,x]]=some (.tup [.agg [a8 c_1,a32 c_2,a8 c_3,aI c_4,aI c_5,a8 c_6,a32 c_7,a8 c_8,aI c_9,aNil],aI e])) ∨
  (l≠[]∧limf env 23 [.agg [a8 a_1,a8 a_2,a32 a_3,a8 a_4,aI a_5,a8 a_6,a32 a_7,a8 a_8,aI a_9,aI a_10,a8 a_11,a32 a_12,a8 a_13,aI a_14,a8 a_15,a32 a_16,kU 1 (rows l)]]=some (.tup [.agg [a8 c_1,a32 c_2,a8 c_3,aI c_4,aI c_5,a8 c_6,a32 c_7,a8 c_8,aI c_9,.fsl 1 (rows l) none],aI e])∧limf env 26 [.agg [a8 a_1,a8 a_2,a32 a_3,a8 a_4,aI a_5,a8 a_6,a32 a_7,a8 a_8,aI a_9,aI a_10,a8 a_11,a32 a_12,a8 a_13,aI a_14,a8 a_15,a32 a_16,x]]=some (.tup [.agg [a8 c_1,a32 c_2,a8 c_3,aI c_4,aI c_5,a8 c_6,a32 c_7,a8 c_8,aI c_9,.isl 1 (rows l) none],aI e])):=by
 have p1:=zm a_1 a_2 a_3 a_4 a_5 a_6 a_7 a_8 a_9 a_10 a_11 a_12 a_13 a_14 a_15 a_16 (iT 1 (rows l)) hl
 have p2:=zp a_1 a_2 a_3 a_4 a_5 a_6 a_7 a_8 a_9 a_10 a_11 a_12 a_13 a_14 a_15 a_16 hx hl hR
 by_cases h:ofE (⟨a_1,⟨a_2,a_3,a_4⟩,a_5,⟨⟨⟨a_6,a_7,a_8⟩,a_9⟩,a_10⟩,⟨⟨a_11,a_12,a_13⟩,a_14⟩,⟨a_15,a_16⟩,l⟩:Opn)=0
 ·rw[if_pos h]at p1 p2
  refine⟨_,_,_,_,_,_,_,_,_,_,.inr ⟨?_,p1,p2⟩⟩
  rintro rfl
  unfold ofE at h
  split at h
  ·split at h
   ·rename_i h1
    have hr:=gh h1.2
    simp only at hr
    have hn:=dL hr.1
    simp only at hn
    simp at hr
    omega
   ·cases h
  ·cases h
 ·rw[if_neg h]at p1 p2
  exact⟨_,_,_,_,_,_,_,_,_,_,.inl ⟨p1,p2⟩⟩
theorem Bn(a_1:UInt8)(a_2:UInt32)(a_3:UInt8)(a_4:Int)(a_5:Int)(a_6:UInt8)(a_7:UInt32)(a_8:UInt8)(a_9:Int)(n:Int){x:AV}{l:List Int}(hx:Sl 1 (rows l) x)(hl:l.length<10000)(hR:fR l) :
 ∃p_1 p_2 p_3 p_4 p_5 p_6 p_7 p_8 p_9 u_1 u_2 u_3 u_4 u_5 u_6 u_7 u_8 u_9 e,(limf env 17 [.agg [a8 a_1,a32 a_2,a8 a_3,aI a_4,aI a_5,a8 a_6,a32 a_7,a8 a_8,aI a_9,kU 1 (rows l)],aI n]=some (.tup [.agg [a8 p_1,a32 p_2,a8 p_3,aI p_4,aI p_5,a8 p_6,a32 p_7,a8 p_8,aI p_9,aNil],.agg [a8 u_1,a32 u_2,a8 u_3,aI u_4,aI u_5,a8 u_6,a32 u_7,a8 u_8,aI u_9,aNil],aI e])∧limf env 27 [.agg [a8 a_1,a32 a_2,a8 a_3,aI a_4,aI a_5,a8 a_6,a32 a_7,a8 a_8,aI a_9,x],aI n]=some (.tup [.agg [a8 p_1,a32 p_2,a8 p_3,aI p_4,aI p_5,a8 p_6,a32 p_7,a8 p_8,aI p_9,aNil],.agg [a8 u_1,a32 u_2,a8 u_3,aI u_4,aI u_5,a8 u_6,a32 u_7,a8 u_8,aI u_9,aNil],aI e])) ∨
  ∃pl ql,l≠[]∧rows pl≠[]∧rows ql≠[]∧pl.length<100000∧ql.length<100000∧limf env 17 [.agg [a8 a_1,a32 a_2,a8 a_3,aI a_4,aI a_5,a8 a_6,a32 a_7,a8 a_8,aI a_9,kU 1 (rows l)],aI n]=some (.tup [.agg [a8 p_1,a32 p_2,a8 p_3,aI p_4,aI p_5,a8 p_6,a32 p_7,a8 p_8,aI p_9,.fsl 1 (rows pl) none],.agg [a8 u_1,a32 u_2,a8 u_3,aI u_4,aI u_5,a8 u_6,a32 u_7,a8 u_8,aI u_9,.fsl 1 (rows ql) none],aI e])∧limf env 27 [.agg [a8 a_1,a32 a_2,a8 a_3,aI a_4,aI a_5,a8 a_6,a32 a_7,a8 a_8,aI a_9,x],aI n]=some (.tup [.agg [a8 p_1,a32 p_2,a8 p_3,aI p_4,aI p_5,a8 p_6,a32 p_7,a8 p_8,aI p_9,.isl 1 (rows pl) none],.agg [a8 u_1,a32 u_2,a8 u_3,aI u_4,aI u_5,a8 u_6,a32 u_7,a8 u_8,aI u_9,.isl 1 (rows ql) none],aI e]):=by
 have p1:=sK a_1 a_2 a_3 a_4 a_5 a_6 a_7 a_8 a_9 n (iT 1 (rows l)) (by omega)
 have p2:=xk a_1 a_2 a_3 a_4 a_5 a_6 a_7 a_8 a_9 n hx (by omega) hR
 by_cases h:gu (⟨⟨⟨⟨a_1,a_2,a_3⟩,a_4⟩,a_5⟩,⟨⟨a_6,a_7,a_8⟩,a_9⟩,l⟩:Rn) n=0
 ·rw[if_pos h]at p1 p2
  unfold gu at h
  split at h
  ·rename_i hb
   have hr:=gh hb
   simp only at hr
   have hn:=dL hr.1
   simp only at hn
   split at h
   ·cases h
   ·rename_i h2
    simp only at h2
    have t1:0<(l.take n.toNat).length:=by rw[List.length_take];omega
    have t2:0<(l.drop n.toNat).length:=by rw[List.length_drop];omega
    exact⟨_,_,_,_,_,_,_,_,_,_,_,_,_,_,_,_,_,_,_,.inr ⟨_,_,(by rintro rfl;simp at hr;omega),fD t1,fD t2,(by rw[List.length_take];omega),(by rw[List.length_drop];omega),p1,p2⟩⟩
  ·cases h
 ·rw[if_neg h]at p1 p2
  exact⟨_,_,_,_,_,_,_,_,_,_,_,_,_,_,_,_,_,_,_,.inl ⟨p1,p2⟩⟩
theorem zx(a_1:UInt8)(a_2:UInt32)(a_3:UInt8)(a_4:Int)(a_5:Int)(a_6:UInt8)(a_7:UInt32)(a_8:UInt8)(a_9:Int)(b_1:UInt8)(b_2:UInt32)(b_3:UInt8)(b_4:Int)(b_5:Int)(b_6:UInt8)(b_7:UInt32)(b_8:UInt8)(b_9:Int){x y:AV}{l m:List Int}(hx:Sl 1 (rows l) x)(hy:Sl 1 (rows m) y)(hl:l.length<10000)(hm:m.length<10000)(hR:fR l)(hR2:fR m) :
 ∃t_1 t_2 t_3 t_4 t_5 t_6 t_7 t_8 t_9 e,(limf env 16 [.agg [a8 a_1,a32 a_2,a8 a_3,aI a_4,aI a_5,a8 a_6,a32 a_7,a8 a_8,aI a_9,kU 1 (rows l)],.agg [a8 b_1,a32 b_2,a8 b_3,aI b_4,aI b_5,a8 b_6,a32 b_7,a8 b_8,aI b_9,kU 1 (rows m)]]=some (.tup [.agg [a8 t_1,a32 t_2,a8 t_3,aI t_4,aI t_5,a8 t_6,a32 t_7,a8 t_8,aI t_9,aNil],aI e])∧limf env 28 [.agg [a8 a_1,a32 a_2,a8 a_3,aI a_4,aI a_5,a8 a_6,a32 a_7,a8 a_8,aI a_9,x],.agg [a8 b_1,a32 b_2,a8 b_3,aI b_4,aI b_5,a8 b_6,a32 b_7,a8 b_8,aI b_9,y]]=some (.tup [.agg [a8 t_1,a32 t_2,a8 t_3,aI t_4,aI t_5,a8 t_6,a32 t_7,a8 t_8,aI t_9,aNil],aI e])) ∨
  ∃tl,l≠[]∧m≠[]∧rows tl≠[]∧tl.length<100000∧limf env 16 [.agg [a8 a_1,a32 a_2,a8 a_3,aI a_4,aI a_5,a8 a_6,a32 a_7,a8 a_8,aI a_9,kU 1 (rows l)],.agg [a8 b_1,a32 b_2,a8 b_3,aI b_4,aI b_5,a8 b_6,a32 b_7,a8 b_8,aI b_9,kU 1 (rows m)]]=some (.tup [.agg [a8 t_1,a32 t_2,a8 t_3,aI t_4,aI t_5,a8 t_6,a32 t_7,a8 t_8,aI t_9,.fsl 1 (rows tl) none],aI e])∧limf env 28 [.agg [a8 a_1,a32 a_2,a8 a_3,aI a_4,aI a_5,a8 a_6,a32 a_7,a8 a_8,aI a_9,x],.agg [a8 b_1,a32 b_2,a8 b_3,aI b_4,aI b_5,a8 b_6,a32 b_7,a8 b_8,aI b_9,y]]=some (.tup [.agg [a8 t_1,a32 t_2,a8 t_3,aI t_4,aI t_5,a8 t_6,a32 t_7,a8 t_8,aI t_9,.isl 1 (rows tl) none],aI e]):=by
 have p1:=u7 a_1 a_2 a_3 a_4 a_5 a_6 a_7 a_8 a_9 b_1 b_2 b_3 b_4 b_5 b_6 b_7 b_8 b_9 (iT 1 (rows l)) (iT 1 (rows m)) hl hm
 have p2:=vc a_1 a_2 a_3 a_4 a_5 a_6 a_7 a_8 a_9 b_1 b_2 b_3 b_4 b_5 b_6 b_7 b_8 b_9 hx hy hl hm hR hR2
 by_cases h:fq (⟨⟨⟨⟨a_1,a_2,a_3⟩,a_4⟩,a_5⟩,⟨⟨a_6,a_7,a_8⟩,a_9⟩,l⟩:Rn) (⟨⟨⟨⟨b_1,b_2,b_3⟩,b_4⟩,b_5⟩,⟨⟨b_6,b_7,b_8⟩,b_9⟩,m⟩:Rn)=0
 ·rw[if_pos h]at p1 p2
  have hb:runB (⟨⟨⟨⟨a_1,a_2,a_3⟩,a_4⟩,a_5⟩,⟨⟨a_6,a_7,a_8⟩,a_9⟩,l⟩:Rn)=true∧runB (⟨⟨⟨⟨b_1,b_2,b_3⟩,b_4⟩,b_5⟩,⟨⟨b_6,b_7,b_8⟩,b_9⟩,m⟩:Rn)=true:=by
   unfold fq at h
   split at h
   ·rename_i h1;simpa using h1
   ·cases h
  have ra:=gh hb.1
  have rb:=gh hb.2
  simp only at ra rb
  have na:=dL ra.1
  have nb:=dL rb.1
  simp only at na nb
  exact⟨_,_,_,_,_,_,_,_,_,_,.inr ⟨_,(by rintro rfl;simp at ra;omega),(by rintro rfl;simp at rb;omega),fD (by rw[List.length_append];omega),(by rw[List.length_append];omega),p1,p2⟩⟩
 ·rw[if_neg h]at p1 p2
  exact⟨_,_,_,_,_,_,_,_,_,_,.inl ⟨p1,p2⟩⟩
set_option maxHeartbeats 4000000 in
theorem Bm(a_1:UInt8)(a_2:UInt32)(a_3:UInt8)(a_4:Int)(a_5:Int)(a_6:UInt8)(a_7:UInt32)(a_8:UInt8)(a_9:Int)(b_1:UInt8)(b_2:UInt32)(b_3:UInt8)(b_4:Int)(b_5:Int)(b_6:UInt8)(b_7:UInt32)(b_8:UInt8)(b_9:Int)(o_1:UInt8)(o_2:UInt8)(o_3:UInt32)(o_4:UInt8)(o_5:Int)(o_6:UInt8)(o_7:UInt32)(o_8:UInt8)(o_9:Int)(o_10:Int)(o_11:UInt8)(o_12:UInt32)(o_13:UInt8)(o_14:Int)(o_15:UInt8)(o_16:UInt32)(n:Int){x0 x1 x2:AV}{l m q:List Int}(hx:Sl 1 (rows l) x0)(hy:Sl 1 (rows m) x1)(hz:Sl 1 (rows q) x2)(hR1:fR l)(hR2:fR m)(hR3:fR q) :
 limf env 6 [.agg [a8 a_1,a32 a_2,a8 a_3,aI a_4,aI a_5,a8 a_6,a32 a_7,a8 a_8,aI a_9,x0],.agg [a8 b_1,a32 b_2,a8 b_3,aI b_4,aI b_5,a8 b_6,a32 b_7,a8 b_8,aI b_9,x1],.agg [a8 o_1,a8 o_2,a32 o_3,a8 o_4,aI o_5,a8 o_6,a32 o_7,a8 o_8,aI o_9,aI o_10,a8 o_11,a32 o_12,a8 o_13,aI o_14,a8 o_15,a32 o_16,x2],aI n]=some (aB true):=by
 by_cases g1:(1000:Int)<l.length
 ·refine aC (fn:=Try.f6) (c:=ai) rfl (by kernel_rfl) (by kernel_rfl) (by kernel_rfl) (by kernel_rfl) ?_;refine aq _ _ _ _ _ _ fun g=>?_
  simp[ar,au,ae,af,ab, *,aj,hx.r,hy.r,hz.r]
 by_cases g2:(1000:Int)<m.length
 ·refine aC (fn:=Try.f6) (c:=ai) rfl (by kernel_rfl) (by kernel_rfl) (by kernel_rfl) (by kernel_rfl) ?_;refine aq _ _ _ _ _ _ fun g=>?_
  simp[ar,au,ae,af,ab, *,aj,hx.r,hy.r,hz.r]
 by_cases g3:(1000:Int)<q.length
 ·refine aC (fn:=Try.f6) (c:=ai) rfl (by kernel_rfl) (by kernel_rfl) (by kernel_rfl) (by kernel_rfl) ?_;refine aq _ _ _ _ _ _ fun g=>?_
  simp[ar,au,ae,af,ab, *,aj,hx.r,hy.r,hz.r]
 have vl:=iT 1 (rows l)
 have vm:=iT 1 (rows m)
 have vq:=iT 1 (rows q)
 have hT1:=p7 a_1 a_2 a_3 a_4 a_5 a_6 a_7 a_8 a_9 hx (by omega)
 have hT2:=p7 b_1 b_2 b_3 b_4 b_5 b_6 b_7 b_8 b_9 hy (by omega)
 have hT3:=xi o_1 o_2 o_3 o_4 o_5 o_6 o_7 o_8 o_9 o_10 o_11 o_12 o_13 o_14 o_15 o_16 hz (by omega)
 have h31:=u6 a_1 a_2 a_3 a_4 a_5 a_6 a_7 a_8 a_9 vl (by omega)
 rw[qC]at h31
 have h19:=fC a_1 a_2 a_3 a_4 a_5 a_6 a_7 a_8 a_9 vl (by omega)
 have h32:=tC a_1 a_2 a_3 a_4 a_5 a_6 a_7 a_8 a_9 hx (by omega) hR1
 have h18:=lG a_1 a_2 a_3 a_4 a_5 a_6 a_7 a_8 a_9 b_1 b_2 b_3 b_4 b_5 b_6 b_7 b_8 b_9 vl vm (by omega)
 have h30:=p8 a_1 a_2 a_3 a_4 a_5 a_6 a_7 a_8 a_9 hx (by omega) b_1 b_2 b_3 b_4 b_5 b_6 b_7 b_8 b_9 hy
 have h18':=uZ a_1 a_2 a_3 a_4 a_5 a_6 a_7 a_8 a_9 vl hx (by omega)
 have h30':=ay a_1 a_2 a_3 a_4 a_5 a_6 a_7 a_8 a_9 vl hx (by omega)
 have h30'':=ay b_1 b_2 b_3 b_4 b_5 b_6 b_7 b_8 b_9 vm hy (by omega)
 have h34:=xj o_1 o_2 o_3 o_4 o_5 o_6 o_7 o_8 o_9 o_10 o_11 o_12 o_13 o_14 o_15 o_16 vq hz (by omega)
 obtain⟨i_1,i_2,i_3,i_4,j_1,j_2,j_3,j_4,k,e4,h20,h29⟩:=DJ a_1 a_2 a_3 a_4 a_5 a_6 a_7 a_8 a_9 n hx vl (by omega) hR1
 obtain⟨c_1,c_2,c_3,c_4,c_5,c_6,c_7,c_8,c_9,e1,hOf⟩:=DI o_1 o_2 o_3 o_4 o_5 o_6 o_7 o_8 o_9 o_10 o_11 o_12 o_13 o_14 o_15 o_16 hz (by omega) hR3
 obtain⟨p_1,p_2,p_3,p_4,p_5,p_6,p_7,p_8,p_9,u_1,u_2,u_3,u_4,u_5,u_6,u_7,u_8,u_9,e2,hCut⟩:=Bn a_1 a_2 a_3 a_4 a_5 a_6 a_7 a_8 a_9 n hx (by omega) hR1
 obtain⟨t_1,t_2,t_3,t_4,t_5,t_6,t_7,t_8,t_9,e3,hJoin⟩:=zx a_1 a_2 a_3 a_4 a_5 a_6 a_7 a_8 a_9 b_1 b_2 b_3 b_4 b_5 b_6 b_7 b_8 b_9 hx hy (by omega) (by omega) hR1 hR2
 generalize decide ((⟨⟨⟨⟨a_1,a_2,a_3⟩,a_4⟩,a_5⟩,⟨⟨a_6,a_7,a_8⟩,a_9⟩,l⟩:Rn)=(⟨⟨⟨⟨b_1,b_2,b_3⟩,b_4⟩,b_5⟩,⟨⟨b_6,b_7,b_8⟩,b_9⟩,m⟩:Rn))=same at *
 generalize bad (runB (⟨⟨⟨⟨a_1,a_2,a_3⟩,a_4⟩,a_5⟩,⟨⟨a_6,a_7,a_8⟩,a_9⟩,l⟩:Rn))=e5 at *
 clear vl vm vq hR1 hR2 hR3
 by_cases el:l=[]<;>by_cases em:m=[]<;>by_cases eq:q=[]
 ·skip
  subst el
  subst em
  subst eq
  try simp only[show rows ([]:List Int)=[] from rfl,ao,ax]at hT1
  try simp only[show rows ([]:List Int)=[] from rfl,ao,ax]at hT2
  try simp only[show rows ([]:List Int)=[] from rfl,ao,ax]at hT3
  try simp only[show rows ([]:List Int)=[] from rfl,ao,ax]at h31
  try simp only[show rows ([]:List Int)=[] from rfl,ao,ax]at h19
  try simp only[show rows ([]:List Int)=[] from rfl,ao,ax]at h18
  try simp only[show rows ([]:List Int)=[] from rfl,ao,ax]at h18'
  try simp only[show rows ([]:List Int)=[] from rfl,ao,ax]at h30'
  try simp only[show rows ([]:List Int)=[] from rfl,ao,ax]at h30''
  try simp only[show rows ([]:List Int)=[] from rfl,ao,ax]at h34
  try simp only[show rows ([]:List Int)=[] from rfl,ao,ax]at h20
  try simp only[show rows ([]:List Int)=[] from rfl,ao,ax]at hOf
  try simp only[show rows ([]:List Int)=[] from rfl,ao,ax]at hCut
  try simp only[show rows ([]:List Int)=[] from rfl,ao,ax]at hJoin
  rcases hOf with ⟨h23,h26⟩ | ⟨z1,h23,h26⟩<;>rcases hCut with ⟨h17,h27⟩ | ⟨pl,ql,z2,np,nq2,bp,bq,h17,h27⟩<;>rcases hJoin with ⟨h16,h28⟩ | ⟨tl,z3,z4,nt,bt,h16,h28⟩
  ·exact rE a_1 a_2 a_3 a_4 a_5 a_6 a_7 a_8 a_9 b_1 b_2 b_3 b_4 b_5 b_6 b_7 b_8 b_9 o_1 o_2 o_3 o_4 o_5 o_6 o_7 o_8 o_9 o_10 o_11 o_12 o_13 o_14 o_15 o_16 c_1 c_2 c_3 c_4 c_5 c_6 c_7 c_8 c_9 p_1 p_2 p_3 p_4 p_5 p_6 p_7 p_8 p_9 u_1 u_2 u_3 u_4 u_5 u_6 u_7 u_8 u_9 t_1 t_2 t_3 t_4 t_5 t_6 t_7 t_8 t_9 i_1 i_2 i_3 i_4 j_1 j_2 j_3 j_4 n k e1 e2 e3 e4 e5 same hx hy hz hT1 hT2 hT3 h23 h26 aw h17 h27 aw aw h16 h28 aw h20 h29 h31 (ay c_1 c_2 c_3 c_4 c_5 c_6 c_7 c_8 c_9 aw aw (by simp)) (ay p_1 p_2 p_3 p_4 p_5 p_6 p_7 p_8 p_9 aw aw (by simp)) (ay u_1 u_2 u_3 u_4 u_5 u_6 u_7 u_8 u_9 aw aw (by simp)) (ay t_1 t_2 t_3 t_4 t_5 t_6 t_7 t_8 t_9 aw aw (by simp)) h19 h32 h18 h30 h18' h30' h30'' h34
  ·exact absurd rfl z3
  ·exact absurd rfl z2
  ·exact absurd rfl z2
  ·exact absurd rfl z1
  ·exact absurd rfl z1
  ·exact absurd rfl z1
  ·exact absurd rfl z1
 ·skip
  subst el
  subst em
  have nq:rows q≠[]:=by simpa using eq
  try simp only[show rows ([]:List Int)=[] from rfl,ao,ax,ak 1 nq,ad 1 nq]at hT1
  try simp only[show rows ([]:List Int)=[] from rfl,ao,ax,ak 1 nq,ad 1 nq]at hT2
  try simp only[show rows ([]:List Int)=[] from rfl,ao,ax,ak 1 nq,ad 1 nq]at hT3
  try simp only[show rows ([]:List Int)=[] from rfl,ao,ax,ak 1 nq,ad 1 nq]at h31
  try simp only[show rows ([]:List Int)=[] from rfl,ao,ax,ak 1 nq,ad 1 nq]at h19
  try simp only[show rows ([]:List Int)=[] from rfl,ao,ax,ak 1 nq,ad 1 nq]at h18
  try simp only[show rows ([]:List Int)=[] from rfl,ao,ax,ak 1 nq,ad 1 nq]at h18'
  try simp only[show rows ([]:List Int)=[] from rfl,ao,ax,ak 1 nq,ad 1 nq]at h30'
  try simp only[show rows ([]:List Int)=[] from rfl,ao,ax,ak 1 nq,ad 1 nq]at h30''
  try simp only[show rows ([]:List Int)=[] from rfl,ao,ax,ak 1 nq,ad 1 nq]at h34
  try simp only[show rows ([]:List Int)=[] from rfl,ao,ax,ak 1 nq,ad 1 nq]at h20
  try simp only[show rows ([]:List Int)=[] from rfl,ao,ax,ak 1 nq,ad 1 nq]at hOf
  try simp only[show rows ([]:List Int)=[] from rfl,ao,ax,ak 1 nq,ad 1 nq]at hCut
  try simp only[show rows ([]:List Int)=[] from rfl,ao,ax,ak 1 nq,ad 1 nq]at hJoin
  rcases hOf with ⟨h23,h26⟩ | ⟨z1,h23,h26⟩<;>rcases hCut with ⟨h17,h27⟩ | ⟨pl,ql,z2,np,nq2,bp,bq,h17,h27⟩<;>rcases hJoin with ⟨h16,h28⟩ | ⟨tl,z3,z4,nt,bt,h16,h28⟩
  ·exact rD a_1 a_2 a_3 a_4 a_5 a_6 a_7 a_8 a_9 b_1 b_2 b_3 b_4 b_5 b_6 b_7 b_8 b_9 o_1 o_2 o_3 o_4 o_5 o_6 o_7 o_8 o_9 o_10 o_11 o_12 o_13 o_14 o_15 o_16 c_1 c_2 c_3 c_4 c_5 c_6 c_7 c_8 c_9 p_1 p_2 p_3 p_4 p_5 p_6 p_7 p_8 p_9 u_1 u_2 u_3 u_4 u_5 u_6 u_7 u_8 u_9 t_1 t_2 t_3 t_4 t_5 t_6 t_7 t_8 t_9 i_1 i_2 i_3 i_4 j_1 j_2 j_3 j_4 n k e1 e2 e3 e4 e5 same hx hy hz nq g3 hT1 hT2 hT3 h23 h26 aw h17 h27 aw aw h16 h28 aw h20 h29 h31 (ay c_1 c_2 c_3 c_4 c_5 c_6 c_7 c_8 c_9 aw aw (by simp)) (ay p_1 p_2 p_3 p_4 p_5 p_6 p_7 p_8 p_9 aw aw (by simp)) (ay u_1 u_2 u_3 u_4 u_5 u_6 u_7 u_8 u_9 aw aw (by simp)) (ay t_1 t_2 t_3 t_4 t_5 t_6 t_7 t_8 t_9 aw aw (by simp)) h19 h32 h18 h30 h18' h30' h30'' h34
  ·exact absurd rfl z3
  ·exact absurd rfl z2
  ·exact absurd rfl z2
  ·exact rC a_1 a_2 a_3 a_4 a_5 a_6 a_7 a_8 a_9 b_1 b_2 b_3 b_4 b_5 b_6 b_7 b_8 b_9 o_1 o_2 o_3 o_4 o_5 o_6 o_7 o_8 o_9 o_10 o_11 o_12 o_13 o_14 o_15 o_16 c_1 c_2 c_3 c_4 c_5 c_6 c_7 c_8 c_9 p_1 p_2 p_3 p_4 p_5 p_6 p_7 p_8 p_9 u_1 u_2 u_3 u_4 u_5 u_6 u_7 u_8 u_9 t_1 t_2 t_3 t_4 t_5 t_6 t_7 t_8 t_9 i_1 i_2 i_3 i_4 j_1 j_2 j_3 j_4 n k e1 e2 e3 e4 e5 same hx hy hz nq g3 nq (by omega) hT1 hT2 hT3 h23 h26 (Sl.mk _ _) h17 h27 aw aw h16 h28 aw h20 h29 h31 (ay c_1 c_2 c_3 c_4 c_5 c_6 c_7 c_8 c_9 (Sl.mk _ _) (Sl.mk _ _) (by omega)) (ay p_1 p_2 p_3 p_4 p_5 p_6 p_7 p_8 p_9 aw aw (by simp)) (ay u_1 u_2 u_3 u_4 u_5 u_6 u_7 u_8 u_9 aw aw (by simp)) (ay t_1 t_2 t_3 t_4 t_5 t_6 t_7 t_8 t_9 aw aw (by simp)) h19 h32 h18 h30 h18' h30' h30'' h34
  ·exact absurd rfl z3
  ·exact absurd rfl z2
  ·exact absurd rfl z2
 ·skip
  subst el
  have nm:rows m≠[]:=by simpa using em
  subst eq
  try simp only[show rows ([]:List Int)=[] from rfl,ao,ax,ak 1 nm,ad 1 nm]at hT1
  try simp only[show rows ([]:List Int)=[] from rfl,ao,ax,ak 1 nm,ad 1 nm]at hT2
  try simp only[show rows ([]:List Int)=[] from rfl,ao,ax,ak 1 nm,ad 1 nm]at hT3
  try simp only[show rows ([]:List Int)=[] from rfl,ao,ax,ak 1 nm,ad 1 nm]at h31
  try simp only[show rows ([]:List Int)=[] from rfl,ao,ax,ak 1 nm,ad 1 nm]at h19
  try simp only[show rows ([]:List Int)=[] from rfl,ao,ax,ak 1 nm,ad 1 nm]at h18
  try simp only[show rows ([]:List Int)=[] from rfl,ao,ax,ak 1 nm,ad 1 nm]at h18'
  try simp only[show rows ([]:List Int)=[] from rfl,ao,ax,ak 1 nm,ad 1 nm]at h30'
  try simp only[show rows ([]:List Int)=[] from rfl,ao,ax,ak 1 nm,ad 1 nm]at h30''
  try simp only[show rows ([]:List Int)=[] from rfl,ao,ax,ak 1 nm,ad 1 nm]at h34
  try simp only[show rows ([]:List Int)=[] from rfl,ao,ax,ak 1 nm,ad 1 nm]at h20
  try simp only[show rows ([]:List Int)=[] from rfl,ao,ax,ak 1 nm,ad 1 nm]at hOf
  try simp only[show rows ([]:List Int)=[] from rfl,ao,ax,ak 1 nm,ad 1 nm]at hCut
  try simp only[show rows ([]:List Int)=[] from rfl,ao,ax,ak 1 nm,ad 1 nm]at hJoin
  rcases hOf with ⟨h23,h26⟩ | ⟨z1,h23,h26⟩<;>rcases hCut with ⟨h17,h27⟩ | ⟨pl,ql,z2,np,nq2,bp,bq,h17,h27⟩<;>rcases hJoin with ⟨h16,h28⟩ | ⟨tl,z3,z4,nt,bt,h16,h28⟩
  ·exact rB a_1 a_2 a_3 a_4 a_5 a_6 a_7 a_8 a_9 b_1 b_2 b_3 b_4 b_5 b_6 b_7 b_8 b_9 o_1 o_2 o_3 o_4 o_5 o_6 o_7 o_8 o_9 o_10 o_11 o_12 o_13 o_14 o_15 o_16 c_1 c_2 c_3 c_4 c_5 c_6 c_7 c_8 c_9 p_1 p_2 p_3 p_4 p_5 p_6 p_7 p_8 p_9 u_1 u_2 u_3 u_4 u_5 u_6 u_7 u_8 u_9 t_1 t_2 t_3 t_4 t_5 t_6 t_7 t_8 t_9 i_1 i_2 i_3 i_4 j_1 j_2 j_3 j_4 n k e1 e2 e3 e4 e5 same hx hy hz nm g2 hT1 hT2 hT3 h23 h26 aw h17 h27 aw aw h16 h28 aw h20 h29 h31 (ay c_1 c_2 c_3 c_4 c_5 c_6 c_7 c_8 c_9 aw aw (by simp)) (ay p_1 p_2 p_3 p_4 p_5 p_6 p_7 p_8 p_9 aw aw (by simp)) (ay u_1 u_2 u_3 u_4 u_5 u_6 u_7 u_8 u_9 aw aw (by simp)) (ay t_1 t_2 t_3 t_4 t_5 t_6 t_7 t_8 t_9 aw aw (by simp)) h19 h32 h18 h30 h18' h30' h30'' h34
  ·exact absurd rfl z3
  ·exact absurd rfl z2
  ·exact absurd rfl z2
  ·exact absurd rfl z1
  ·exact absurd rfl z1
  ·exact absurd rfl z1
  ·exact absurd rfl z1
 ·skip
  subst el
  have nm:rows m≠[]:=by simpa using em
  have nq:rows q≠[]:=by simpa using eq
  try simp only[show rows ([]:List Int)=[] from rfl,ao,ax,ak 1 nm,ad 1 nm,ak 1 nq,ad 1 nq]at hT1
  try simp only[show rows ([]:List Int)=[] from rfl,ao,ax,ak 1 nm,ad 1 nm,ak 1 nq,ad 1 nq]at hT2
  try simp only[show rows ([]:List Int)=[] from rfl,ao,ax,ak 1 nm,ad 1 nm,ak 1 nq,ad 1 nq]at hT3
  try simp only[show rows ([]:List Int)=[] from rfl,ao,ax,ak 1 nm,ad 1 nm,ak 1 nq,ad 1 nq]at h31
  try simp only[show rows ([]:List Int)=[] from rfl,ao,ax,ak 1 nm,ad 1 nm,ak 1 nq,ad 1 nq]at h19
  try simp only[show rows ([]:List Int)=[] from rfl,ao,ax,ak 1 nm,ad 1 nm,ak 1 nq,ad 1 nq]at h18
  try simp only[show rows ([]:List Int)=[] from rfl,ao,ax,ak 1 nm,ad 1 nm,ak 1 nq,ad 1 nq]at h18'
  try simp only[show rows ([]:List Int)=[] from rfl,ao,ax,ak 1 nm,ad 1 nm,ak 1 nq,ad 1 nq]at h30'
  try simp only[show rows ([]:List Int)=[] from rfl,ao,ax,ak 1 nm,ad 1 nm,ak 1 nq,ad 1 nq]at h30''
  try simp only[show rows ([]:List Int)=[] from rfl,ao,ax,ak 1 nm,ad 1 nm,ak 1 nq,ad 1 nq]at h34
  try simp only[show rows ([]:List Int)=[] from rfl,ao,ax,ak 1 nm,ad 1 nm,ak 1 nq,ad 1 nq]at h20
  try simp only[show rows ([]:List Int)=[] from rfl,ao,ax,ak 1 nm,ad 1 nm,ak 1 nq,ad 1 nq]at hOf
  try simp only[show rows ([]:List Int)=[] from rfl,ao,ax,ak 1 nm,ad 1 nm,ak 1 nq,ad 1 nq]at hCut
  try simp only[show rows ([]:List Int)=[] from rfl,ao,ax,ak 1 nm,ad 1 nm,ak 1 nq,ad 1 nq]at hJoin
  rcases hOf with ⟨h23,h26⟩ | ⟨z1,h23,h26⟩<;>rcases hCut with ⟨h17,h27⟩ | ⟨pl,ql,z2,np,nq2,bp,bq,h17,h27⟩<;>rcases hJoin with ⟨h16,h28⟩ | ⟨tl,z3,z4,nt,bt,h16,h28⟩
  ·exact rA a_1 a_2 a_3 a_4 a_5 a_6 a_7 a_8 a_9 b_1 b_2 b_3 b_4 b_5 b_6 b_7 b_8 b_9 o_1 o_2 o_3 o_4 o_5 o_6 o_7 o_8 o_9 o_10 o_11 o_12 o_13 o_14 o_15 o_16 c_1 c_2 c_3 c_4 c_5 c_6 c_7 c_8 c_9 p_1 p_2 p_3 p_4 p_5 p_6 p_7 p_8 p_9 u_1 u_2 u_3 u_4 u_5 u_6 u_7 u_8 u_9 t_1 t_2 t_3 t_4 t_5 t_6 t_7 t_8 t_9 i_1 i_2 i_3 i_4 j_1 j_2 j_3 j_4 n k e1 e2 e3 e4 e5 same hx hy hz nm g2 nq g3 hT1 hT2 hT3 h23 h26 aw h17 h27 aw aw h16 h28 aw h20 h29 h31 (ay c_1 c_2 c_3 c_4 c_5 c_6 c_7 c_8 c_9 aw aw (by simp)) (ay p_1 p_2 p_3 p_4 p_5 p_6 p_7 p_8 p_9 aw aw (by simp)) (ay u_1 u_2 u_3 u_4 u_5 u_6 u_7 u_8 u_9 aw aw (by simp)) (ay t_1 t_2 t_3 t_4 t_5 t_6 t_7 t_8 t_9 aw aw (by simp)) h19 h32 h18 h30 h18' h30' h30'' h34
  ·exact absurd rfl z3
  ·exact absurd rfl z2
  ·exact absurd rfl z2
  ·exact rz a_1 a_2 a_3 a_4 a_5 a_6 a_7 a_8 a_9 b_1 b_2 b_3 b_4 b_5 b_6 b_7 b_8 b_9 o_1 o_2 o_3 o_4 o_5 o_6 o_7 o_8 o_9 o_10 o_11 o_12 o_13 o_14 o_15 o_16 c_1 c_2 c_3 c_4 c_5 c_6 c_7 c_8 c_9 p_1 p_2 p_3 p_4 p_5 p_6 p_7 p_8 p_9 u_1 u_2 u_3 u_4 u_5 u_6 u_7 u_8 u_9 t_1 t_2 t_3 t_4 t_5 t_6 t_7 t_8 t_9 i_1 i_2 i_3 i_4 j_1 j_2 j_3 j_4 n k e1 e2 e3 e4 e5 same hx hy hz nm g2 nq g3 nq (by omega) hT1 hT2 hT3 h23 h26 (Sl.mk _ _) h17 h27 aw aw h16 h28 aw h20 h29 h31 (ay c_1 c_2 c_3 c_4 c_5 c_6 c_7 c_8 c_9 (Sl.mk _ _) (Sl.mk _ _) (by omega)) (ay p_1 p_2 p_3 p_4 p_5 p_6 p_7 p_8 p_9 aw aw (by simp)) (ay u_1 u_2 u_3 u_4 u_5 u_6 u_7 u_8 u_9 aw aw (by simp)) (ay t_1 t_2 t_3 t_4 t_5 t_6 t_7 t_8 t_9 aw aw (by simp)) h19 h32 h18 h30 h18' h30' h30'' h34
  ·exact absurd rfl z3
  ·exact absurd rfl z2
  ·exact absurd rfl z2
 ·skip
  have nl:rows l≠[]:=by simpa using el
  subst em
  subst eq
  try simp only[show rows ([]:List Int)=[] from rfl,ao,ax,ak 1 nl,ad 1 nl]at hT1
  try simp only[show rows ([]:List Int)=[] from rfl,ao,ax,ak 1 nl,ad 1 nl]at hT2
  try simp only[show rows ([]:List Int)=[] from rfl,ao,ax,ak 1 nl,ad 1 nl]at hT3
  try simp only[show rows ([]:List Int)=[] from rfl,ao,ax,ak 1 nl,ad 1 nl]at h31
  try simp only[show rows ([]:List Int)=[] from rfl,ao,ax,ak 1 nl,ad 1 nl]at h19
  try simp only[show rows ([]:List Int)=[] from rfl,ao,ax,ak 1 nl,ad 1 nl]at h18
  try simp only[show rows ([]:List Int)=[] from rfl,ao,ax,ak 1 nl,ad 1 nl]at h18'
  try simp only[show rows ([]:List Int)=[] from rfl,ao,ax,ak 1 nl,ad 1 nl]at h30'
  try simp only[show rows ([]:List Int)=[] from rfl,ao,ax,ak 1 nl,ad 1 nl]at h30''
  try simp only[show rows ([]:List Int)=[] from rfl,ao,ax,ak 1 nl,ad 1 nl]at h34
  try simp only[show rows ([]:List Int)=[] from rfl,ao,ax,ak 1 nl,ad 1 nl]at h20
  try simp only[show rows ([]:List Int)=[] from rfl,ao,ax,ak 1 nl,ad 1 nl]at hOf
  try simp only[show rows ([]:List Int)=[] from rfl,ao,ax,ak 1 nl,ad 1 nl]at hCut
  try simp only[show rows ([]:List Int)=[] from rfl,ao,ax,ak 1 nl,ad 1 nl]at hJoin
  rcases hOf with ⟨h23,h26⟩ | ⟨z1,h23,h26⟩<;>rcases hCut with ⟨h17,h27⟩ | ⟨pl,ql,z2,np,nq2,bp,bq,h17,h27⟩<;>rcases hJoin with ⟨h16,h28⟩ | ⟨tl,z3,z4,nt,bt,h16,h28⟩
  ·exact ry a_1 a_2 a_3 a_4 a_5 a_6 a_7 a_8 a_9 b_1 b_2 b_3 b_4 b_5 b_6 b_7 b_8 b_9 o_1 o_2 o_3 o_4 o_5 o_6 o_7 o_8 o_9 o_10 o_11 o_12 o_13 o_14 o_15 o_16 c_1 c_2 c_3 c_4 c_5 c_6 c_7 c_8 c_9 p_1 p_2 p_3 p_4 p_5 p_6 p_7 p_8 p_9 u_1 u_2 u_3 u_4 u_5 u_6 u_7 u_8 u_9 t_1 t_2 t_3 t_4 t_5 t_6 t_7 t_8 t_9 i_1 i_2 i_3 i_4 j_1 j_2 j_3 j_4 n k e1 e2 e3 e4 e5 same hx hy hz nl g1 hT1 hT2 hT3 h23 h26 aw h17 h27 aw aw h16 h28 aw h20 h29 h31 (ay c_1 c_2 c_3 c_4 c_5 c_6 c_7 c_8 c_9 aw aw (by simp)) (ay p_1 p_2 p_3 p_4 p_5 p_6 p_7 p_8 p_9 aw aw (by simp)) (ay u_1 u_2 u_3 u_4 u_5 u_6 u_7 u_8 u_9 aw aw (by simp)) (ay t_1 t_2 t_3 t_4 t_5 t_6 t_7 t_8 t_9 aw aw (by simp)) h19 h32 h18 h30 h18' h30' h30'' h34
  ·exact absurd rfl z4
  ·exact ru a_1 a_2 a_3 a_4 a_5 a_6 a_7 a_8 a_9 b_1 b_2 b_3 b_4 b_5 b_6 b_7 b_8 b_9 o_1 o_2 o_3 o_4 o_5 o_6 o_7 o_8 o_9 o_10 o_11 o_12 o_13 o_14 o_15 o_16 c_1 c_2 c_3 c_4 c_5 c_6 c_7 c_8 c_9 p_1 p_2 p_3 p_4 p_5 p_6 p_7 p_8 p_9 u_1 u_2 u_3 u_4 u_5 u_6 u_7 u_8 u_9 t_1 t_2 t_3 t_4 t_5 t_6 t_7 t_8 t_9 i_1 i_2 i_3 i_4 j_1 j_2 j_3 j_4 n k e1 e2 e3 e4 e5 same hx hy hz nl g1 np bp nq2 bq hT1 hT2 hT3 h23 h26 aw h17 h27 (Sl.mk _ _) (Sl.mk _ _) h16 h28 aw h20 h29 h31 (ay c_1 c_2 c_3 c_4 c_5 c_6 c_7 c_8 c_9 aw aw (by simp)) (ay p_1 p_2 p_3 p_4 p_5 p_6 p_7 p_8 p_9 (Sl.mk _ _) (Sl.mk _ _) (by omega)) (ay u_1 u_2 u_3 u_4 u_5 u_6 u_7 u_8 u_9 (Sl.mk _ _) (Sl.mk _ _) (by omega)) (ay t_1 t_2 t_3 t_4 t_5 t_6 t_7 t_8 t_9 aw aw (by simp)) h19 h32 h18 h30 h18' h30' h30'' h34
  ·exact absurd rfl z4
  ·exact absurd rfl z1
  ·exact absurd rfl z1
  ·exact absurd rfl z1
  ·exact absurd rfl z1
 ·skip
  have nl:rows l≠[]:=by simpa using el
  subst em
  have nq:rows q≠[]:=by simpa using eq
  try simp only[show rows ([]:List Int)=[] from rfl,ao,ax,ak 1 nl,ad 1 nl,ak 1 nq,ad 1 nq]at hT1
  try simp only[show rows ([]:List Int)=[] from rfl,ao,ax,ak 1 nl,ad 1 nl,ak 1 nq,ad 1 nq]at hT2
  try simp only[show rows ([]:List Int)=[] from rfl,ao,ax,ak 1 nl,ad 1 nl,ak 1 nq,ad 1 nq]at hT3
  try simp only[show rows ([]:List Int)=[] from rfl,ao,ax,ak 1 nl,ad 1 nl,ak 1 nq,ad 1 nq]at h31
  try simp only[show rows ([]:List Int)=[] from rfl,ao,ax,ak 1 nl,ad 1 nl,ak 1 nq,ad 1 nq]at h19
  try simp only[show rows ([]:List Int)=[] from rfl,ao,ax,ak 1 nl,ad 1 nl,ak 1 nq,ad 1 nq]at h18
  try simp only[show rows ([]:List Int)=[] from rfl,ao,ax,ak 1 nl,ad 1 nl,ak 1 nq,ad 1 nq]at h18'
  try simp only[show rows ([]:List Int)=[] from rfl,ao,ax,ak 1 nl,ad 1 nl,ak 1 nq,ad 1 nq]at h30'
  try simp only[show rows ([]:List Int)=[] from rfl,ao,ax,ak 1 nl,ad 1 nl,ak 1 nq,ad 1 nq]at h30''
  try simp only[show rows ([]:List Int)=[] from rfl,ao,ax,ak 1 nl,ad 1 nl,ak 1 nq,ad 1 nq]at h34
  try simp only[show rows ([]:List Int)=[] from rfl,ao,ax,ak 1 nl,ad 1 nl,ak 1 nq,ad 1 nq]at h20
  try simp only[show rows ([]:List Int)=[] from rfl,ao,ax,ak 1 nl,ad 1 nl,ak 1 nq,ad 1 nq]at hOf
  try simp only[show rows ([]:List Int)=[] from rfl,ao,ax,ak 1 nl,ad 1 nl,ak 1 nq,ad 1 nq]at hCut
  try simp only[show rows ([]:List Int)=[] from rfl,ao,ax,ak 1 nl,ad 1 nl,ak 1 nq,ad 1 nq]at hJoin
  rcases hOf with ⟨h23,h26⟩ | ⟨z1,h23,h26⟩<;>rcases hCut with ⟨h17,h27⟩ | ⟨pl,ql,z2,np,nq2,bp,bq,h17,h27⟩<;>rcases hJoin with ⟨h16,h28⟩ | ⟨tl,z3,z4,nt,bt,h16,h28⟩
  ·exact rr a_1 a_2 a_3 a_4 a_5 a_6 a_7 a_8 a_9 b_1 b_2 b_3 b_4 b_5 b_6 b_7 b_8 b_9 o_1 o_2 o_3 o_4 o_5 o_6 o_7 o_8 o_9 o_10 o_11 o_12 o_13 o_14 o_15 o_16 c_1 c_2 c_3 c_4 c_5 c_6 c_7 c_8 c_9 p_1 p_2 p_3 p_4 p_5 p_6 p_7 p_8 p_9 u_1 u_2 u_3 u_4 u_5 u_6 u_7 u_8 u_9 t_1 t_2 t_3 t_4 t_5 t_6 t_7 t_8 t_9 i_1 i_2 i_3 i_4 j_1 j_2 j_3 j_4 n k e1 e2 e3 e4 e5 same hx hy hz nl g1 nq g3 hT1 hT2 hT3 h23 h26 aw h17 h27 aw aw h16 h28 aw h20 h29 h31 (ay c_1 c_2 c_3 c_4 c_5 c_6 c_7 c_8 c_9 aw aw (by simp)) (ay p_1 p_2 p_3 p_4 p_5 p_6 p_7 p_8 p_9 aw aw (by simp)) (ay u_1 u_2 u_3 u_4 u_5 u_6 u_7 u_8 u_9 aw aw (by simp)) (ay t_1 t_2 t_3 t_4 t_5 t_6 t_7 t_8 t_9 aw aw (by simp)) h19 h32 h18 h30 h18' h30' h30'' h34
  ·exact absurd rfl z4
  ·exact rq a_1 a_2 a_3 a_4 a_5 a_6 a_7 a_8 a_9 b_1 b_2 b_3 b_4 b_5 b_6 b_7 b_8 b_9 o_1 o_2 o_3 o_4 o_5 o_6 o_7 o_8 o_9 o_10 o_11 o_12 o_13 o_14 o_15 o_16 c_1 c_2 c_3 c_4 c_5 c_6 c_7 c_8 c_9 p_1 p_2 p_3 p_4 p_5 p_6 p_7 p_8 p_9 u_1 u_2 u_3 u_4 u_5 u_6 u_7 u_8 u_9 t_1 t_2 t_3 t_4 t_5 t_6 t_7 t_8 t_9 i_1 i_2 i_3 i_4 j_1 j_2 j_3 j_4 n k e1 e2 e3 e4 e5 same hx hy hz nl g1 nq g3 np bp nq2 bq hT1 hT2 hT3 h23 h26 aw h17 h27 (Sl.mk _ _) (Sl.mk _ _) h16 h28 aw h20 h29 h31 (ay c_1 c_2 c_3 c_4 c_5 c_6 c_7 c_8 c_9 aw aw (by simp)) (ay p_1 p_2 p_3 p_4 p_5 p_6 p_7 p_8 p_9 (Sl.mk _ _) (Sl.mk _ _) (by omega)) (ay u_1 u_2 u_3 u_4 u_5 u_6 u_7 u_8 u_9 (Sl.mk _ _) (Sl.mk _ _) (by omega)) (ay t_1 t_2 t_3 t_4 t_5 t_6 t_7 t_8 t_9 aw aw (by simp)) h19 h32 h18 h30 h18' h30' h30'' h34
  ·exact absurd rfl z4
  ·exact rp a_1 a_2 a_3 a_4 a_5 a_6 a_7 a_8 a_9 b_1 b_2 b_3 b_4 b_5 b_6 b_7 b_8 b_9 o_1 o_2 o_3 o_4 o_5 o_6 o_7 o_8 o_9 o_10 o_11 o_12 o_13 o_14 o_15 o_16 c_1 c_2 c_3 c_4 c_5 c_6 c_7 c_8 c_9 p_1 p_2 p_3 p_4 p_5 p_6 p_7 p_8 p_9 u_1 u_2 u_3 u_4 u_5 u_6 u_7 u_8 u_9 t_1 t_2 t_3 t_4 t_5 t_6 t_7 t_8 t_9 i_1 i_2 i_3 i_4 j_1 j_2 j_3 j_4 n k e1 e2 e3 e4 e5 same hx hy hz nl g1 nq g3 nq (by omega) hT1 hT2 hT3 h23 h26 (Sl.mk _ _) h17 h27 aw aw h16 h28 aw h20 h29 h31 (ay c_1 c_2 c_3 c_4 c_5 c_6 c_7 c_8 c_9 (Sl.mk _ _) (Sl.mk _ _) (by omega)) (ay p_1 p_2 p_3 p_4 p_5 p_6 p_7 p_8 p_9 aw aw (by simp)) (ay u_1 u_2 u_3 u_4 u_5 u_6 u_7 u_8 u_9 aw aw (by simp)) (ay t_1 t_2 t_3 t_4 t_5 t_6 t_7 t_8 t_9 aw aw (by simp)) h19 h32 h18 h30 h18' h30' h30'' h34
  ·exact absurd rfl z4
  ·exact rm a_1 a_2 a_3 a_4 a_5 a_6 a_7 a_8 a_9 b_1 b_2 b_3 b_4 b_5 b_6 b_7 b_8 b_9 o_1 o_2 o_3 o_4 o_5 o_6 o_7 o_8 o_9 o_10 o_11 o_12 o_13 o_14 o_15 o_16 c_1 c_2 c_3 c_4 c_5 c_6 c_7 c_8 c_9 p_1 p_2 p_3 p_4 p_5 p_6 p_7 p_8 p_9 u_1 u_2 u_3 u_4 u_5 u_6 u_7 u_8 u_9 t_1 t_2 t_3 t_4 t_5 t_6 t_7 t_8 t_9 i_1 i_2 i_3 i_4 j_1 j_2 j_3 j_4 n k e1 e2 e3 e4 e5 same hx hy hz nl g1 nq g3 nq (by omega) np bp nq2 bq hT1 hT2 hT3 h23 h26 (Sl.mk _ _) h17 h27 (Sl.mk _ _) (Sl.mk _ _) h16 h28 aw h20 h29 h31 (ay c_1 c_2 c_3 c_4 c_5 c_6 c_7 c_8 c_9 (Sl.mk _ _) (Sl.mk _ _) (by omega)) (ay p_1 p_2 p_3 p_4 p_5 p_6 p_7 p_8 p_9 (Sl.mk _ _) (Sl.mk _ _) (by omega)) (ay u_1 u_2 u_3 u_4 u_5 u_6 u_7 u_8 u_9 (Sl.mk _ _) (Sl.mk _ _) (by omega)) (ay t_1 t_2 t_3 t_4 t_5 t_6 t_7 t_8 t_9 aw aw (by simp)) h19 h32 h18 h30 h18' h30' h30'' h34
  ·exact absurd rfl z4
 ·skip
  have nl:rows l≠[]:=by simpa using el
  have nm:rows m≠[]:=by simpa using em
  subst eq
  try simp only[show rows ([]:List Int)=[] from rfl,ao,ax,ak 1 nl,ad 1 nl,ak 1 nm,ad 1 nm]at hT1
  try simp only[show rows ([]:List Int)=[] from rfl,ao,ax,ak 1 nl,ad 1 nl,ak 1 nm,ad 1 nm]at hT2
  try simp only[show rows ([]:List Int)=[] from rfl,ao,ax,ak 1 nl,ad 1 nl,ak 1 nm,ad 1 nm]at hT3
  try simp only[show rows ([]:List Int)=[] from rfl,ao,ax,ak 1 nl,ad 1 nl,ak 1 nm,ad 1 nm]at h31
  try simp only[show rows ([]:List Int)=[] from rfl,ao,ax,ak 1 nl,ad 1 nl,ak 1 nm,ad 1 nm]at h19
  try simp only[show rows ([]:List Int)=[] from rfl,ao,ax,ak 1 nl,ad 1 nl,ak 1 nm,ad 1 nm]at h18
  try simp only[show rows ([]:List Int)=[] from rfl,ao,ax,ak 1 nl,ad 1 nl,ak 1 nm,ad 1 nm]at h18'
  try simp only[show rows ([]:List Int)=[] from rfl,ao,ax,ak 1 nl,ad 1 nl,ak 1 nm,ad 1 nm]at h30'
  try simp only[show rows ([]:List Int)=[] from rfl,ao,ax,ak 1 nl,ad 1 nl,ak 1 nm,ad 1 nm]at h30''
  try simp only[show rows ([]:List Int)=[] from rfl,ao,ax,ak 1 nl,ad 1 nl,ak 1 nm,ad 1 nm]at h34
  try simp only[show rows ([]:List Int)=[] from rfl,ao,ax,ak 1 nl,ad 1 nl,ak 1 nm,ad 1 nm]at h20
  try simp only[show rows ([]:List Int)=[] from rfl,ao,ax,ak 1 nl,ad 1 nl,ak 1 nm,ad 1 nm]at hOf
  try simp only[show rows ([]:List Int)=[] from rfl,ao,ax,ak 1 nl,ad 1 nl,ak 1 nm,ad 1 nm]at hCut
  try simp only[show rows ([]:List Int)=[] from rfl,ao,ax,ak 1 nl,ad 1 nl,ak 1 nm,ad 1 nm]at hJoin
  rcases hOf with ⟨h23,h26⟩ | ⟨z1,h23,h26⟩<;>rcases hCut with ⟨h17,h27⟩ | ⟨pl,ql,z2,np,nq2,bp,bq,h17,h27⟩<;>rcases hJoin with ⟨h16,h28⟩ | ⟨tl,z3,z4,nt,bt,h16,h28⟩
  ·exact rl a_1 a_2 a_3 a_4 a_5 a_6 a_7 a_8 a_9 b_1 b_2 b_3 b_4 b_5 b_6 b_7 b_8 b_9 o_1 o_2 o_3 o_4 o_5 o_6 o_7 o_8 o_9 o_10 o_11 o_12 o_13 o_14 o_15 o_16 c_1 c_2 c_3 c_4 c_5 c_6 c_7 c_8 c_9 p_1 p_2 p_3 p_4 p_5 p_6 p_7 p_8 p_9 u_1 u_2 u_3 u_4 u_5 u_6 u_7 u_8 u_9 t_1 t_2 t_3 t_4 t_5 t_6 t_7 t_8 t_9 i_1 i_2 i_3 i_4 j_1 j_2 j_3 j_4 n k e1 e2 e3 e4 e5 same hx hy hz nl g1 nm g2 hT1 hT2 hT3 h23 h26 aw h17 h27 aw aw h16 h28 aw h20 h29 h31 (ay c_1 c_2 c_3 c_4 c_5 c_6 c_7 c_8 c_9 aw aw (by simp)) (ay p_1 p_2 p_3 p_4 p_5 p_6 p_7 p_8 p_9 aw aw (by simp)) (ay u_1 u_2 u_3 u_4 u_5 u_6 u_7 u_8 u_9 aw aw (by simp)) (ay t_1 t_2 t_3 t_4 t_5 t_6 t_7 t_8 t_9 aw aw (by simp)) h19 h32 h18 h30 h18' h30' h30'' h34
  ·exact rk a_1 a_2 a_3 a_4 a_5 a_6 a_7 a_8 a_9 b_1 b_2 b_3 b_4 b_5 b_6 b_7 b_8 b_9 o_1 o_2 o_3 o_4 o_5 o_6 o_7 o_8 o_9 o_10 o_11 o_12 o_13 o_14 o_15 o_16 c_1 c_2 c_3 c_4 c_5 c_6 c_7 c_8 c_9 p_1 p_2 p_3 p_4 p_5 p_6 p_7 p_8 p_9 u_1 u_2 u_3 u_4 u_5 u_6 u_7 u_8 u_9 t_1 t_2 t_3 t_4 t_5 t_6 t_7 t_8 t_9 i_1 i_2 i_3 i_4 j_1 j_2 j_3 j_4 n k e1 e2 e3 e4 e5 same hx hy hz nl g1 nm g2 nt bt hT1 hT2 hT3 h23 h26 aw h17 h27 aw aw h16 h28 (Sl.mk _ _) h20 h29 h31 (ay c_1 c_2 c_3 c_4 c_5 c_6 c_7 c_8 c_9 aw aw (by simp)) (ay p_1 p_2 p_3 p_4 p_5 p_6 p_7 p_8 p_9 aw aw (by simp)) (ay u_1 u_2 u_3 u_4 u_5 u_6 u_7 u_8 u_9 aw aw (by simp)) (ay t_1 t_2 t_3 t_4 t_5 t_6 t_7 t_8 t_9 (Sl.mk _ _) (Sl.mk _ _) (by omega)) h19 h32 h18 h30 h18' h30' h30'' h34
  ·exact rj a_1 a_2 a_3 a_4 a_5 a_6 a_7 a_8 a_9 b_1 b_2 b_3 b_4 b_5 b_6 b_7 b_8 b_9 o_1 o_2 o_3 o_4 o_5 o_6 o_7 o_8 o_9 o_10 o_11 o_12 o_13 o_14 o_15 o_16 c_1 c_2 c_3 c_4 c_5 c_6 c_7 c_8 c_9 p_1 p_2 p_3 p_4 p_5 p_6 p_7 p_8 p_9 u_1 u_2 u_3 u_4 u_5 u_6 u_7 u_8 u_9 t_1 t_2 t_3 t_4 t_5 t_6 t_7 t_8 t_9 i_1 i_2 i_3 i_4 j_1 j_2 j_3 j_4 n k e1 e2 e3 e4 e5 same hx hy hz nl g1 nm g2 np bp nq2 bq hT1 hT2 hT3 h23 h26 aw h17 h27 (Sl.mk _ _) (Sl.mk _ _) h16 h28 aw h20 h29 h31 (ay c_1 c_2 c_3 c_4 c_5 c_6 c_7 c_8 c_9 aw aw (by simp)) (ay p_1 p_2 p_3 p_4 p_5 p_6 p_7 p_8 p_9 (Sl.mk _ _) (Sl.mk _ _) (by omega)) (ay u_1 u_2 u_3 u_4 u_5 u_6 u_7 u_8 u_9 (Sl.mk _ _) (Sl.mk _ _) (by omega)) (ay t_1 t_2 t_3 t_4 t_5 t_6 t_7 t_8 t_9 aw aw (by simp)) h19 h32 h18 h30 h18' h30' h30'' h34
  ·exact ri a_1 a_2 a_3 a_4 a_5 a_6 a_7 a_8 a_9 b_1 b_2 b_3 b_4 b_5 b_6 b_7 b_8 b_9 o_1 o_2 o_3 o_4 o_5 o_6 o_7 o_8 o_9 o_10 o_11 o_12 o_13 o_14 o_15 o_16 c_1 c_2 c_3 c_4 c_5 c_6 c_7 c_8 c_9 p_1 p_2 p_3 p_4 p_5 p_6 p_7 p_8 p_9 u_1 u_2 u_3 u_4 u_5 u_6 u_7 u_8 u_9 t_1 t_2 t_3 t_4 t_5 t_6 t_7 t_8 t_9 i_1 i_2 i_3 i_4 j_1 j_2 j_3 j_4 n k e1 e2 e3 e4 e5 same hx hy hz nl g1 nm g2 np bp nq2 bq nt bt hT1 hT2 hT3 h23 h26 aw h17 h27 (Sl.mk _ _) (Sl.mk _ _) h16 h28 (Sl.mk _ _) h20 h29 h31 (ay c_1 c_2 c_3 c_4 c_5 c_6 c_7 c_8 c_9 aw aw (by simp)) (ay p_1 p_2 p_3 p_4 p_5 p_6 p_7 p_8 p_9 (Sl.mk _ _) (Sl.mk _ _) (by omega)) (ay u_1 u_2 u_3 u_4 u_5 u_6 u_7 u_8 u_9 (Sl.mk _ _) (Sl.mk _ _) (by omega)) (ay t_1 t_2 t_3 t_4 t_5 t_6 t_7 t_8 t_9 (Sl.mk _ _) (Sl.mk _ _) (by omega)) h19 h32 h18 h30 h18' h30' h30'' h34
  ·exact absurd rfl z1
  ·exact absurd rfl z1
  ·exact absurd rfl z1
  ·exact absurd rfl z1
 ·skip
  have nl:rows l≠[]:=by simpa using el
  have nm:rows m≠[]:=by simpa using em
  have nq:rows q≠[]:=by simpa using eq
  try simp only[show rows ([]:List Int)=[] from rfl,ao,ax,ak 1 nl,ad 1 nl,ak 1 nm,ad 1 nm,ak 1 nq,ad 1 nq]at hT1
  try simp only[show rows ([]:List Int)=[] from rfl,ao,ax,ak 1 nl,ad 1 nl,ak 1 nm,ad 1 nm,ak 1 nq,ad 1 nq]at hT2
  try simp only[show rows ([]:List Int)=[] from rfl,ao,ax,ak 1 nl,ad 1 nl,ak 1 nm,ad 1 nm,ak 1 nq,ad 1 nq]at hT3
  try simp only[show rows ([]:List Int)=[] from rfl,ao,ax,ak 1 nl,ad 1 nl,ak 1 nm,ad 1 nm,ak 1 nq,ad 1 nq]at h31
  try simp only[show rows ([]:List Int)=[] from rfl,ao,ax,ak 1 nl,ad 1 nl,ak 1 nm,ad 1 nm,ak 1 nq,ad 1 nq]at h19
  try simp only[show rows ([]:List Int)=[] from rfl,ao,ax,ak 1 nl,ad 1 nl,ak 1 nm,ad 1 nm,ak 1 nq,ad 1 nq]at h18
  try simp only[show rows ([]:List Int)=[] from rfl,ao,ax,ak 1 nl,ad 1 nl,ak 1 nm,ad 1 nm,ak 1 nq,ad 1 nq]at h18'
  try simp only[show rows ([]:List Int)=[] from rfl,ao,ax,ak 1 nl,ad 1 nl,ak 1 nm,ad 1 nm,ak 1 nq,ad 1 nq]at h30'
  try simp only[show rows ([]:List Int)=[] from rfl,ao,ax,ak 1 nl,ad 1 nl,ak 1 nm,ad 1 nm,ak 1 nq,ad 1 nq]at h30''
  try simp only[show rows ([]:List Int)=[] from rfl,ao,ax,ak 1 nl,ad 1 nl,ak 1 nm,ad 1 nm,ak 1 nq,ad 1 nq]at h34
  try simp only[show rows ([]:List Int)=[] from rfl,ao,ax,ak 1 nl,ad 1 nl,ak 1 nm,ad 1 nm,ak 1 nq,ad 1 nq]at h20
  try simp only[show rows ([]:List Int)=[] from rfl,ao,ax,ak 1 nl,ad 1 nl,ak 1 nm,ad 1 nm,ak 1 nq,ad 1 nq]at hOf
  try simp only[show rows ([]:List Int)=[] from rfl,ao,ax,ak 1 nl,ad 1 nl,ak 1 nm,ad 1 nm,ak 1 nq,ad 1 nq]at hCut
  try simp only[show rows ([]:List Int)=[] from rfl,ao,ax,ak 1 nl,ad 1 nl,ak 1 nm,ad 1 nm,ak 1 nq,ad 1 nq]at hJoin
  rcases hOf with ⟨h23,h26⟩ | ⟨z1,h23,h26⟩<;>rcases hCut with ⟨h17,h27⟩ | ⟨pl,ql,z2,np,nq2,bp,bq,h17,h27⟩<;>rcases hJoin with ⟨h16,h28⟩ | ⟨tl,z3,z4,nt,bt,h16,h28⟩
  ·exact rh a_1 a_2 a_3 a_4 a_5 a_6 a_7 a_8 a_9 b_1 b_2 b_3 b_4 b_5 b_6 b_7 b_8 b_9 o_1 o_2 o_3 o_4 o_5 o_6 o_7 o_8 o_9 o_10 o_11 o_12 o_13 o_14 o_15 o_16 c_1 c_2 c_3 c_4 c_5 c_6 c_7 c_8 c_9 p_1 p_2 p_3 p_4 p_5 p_6 p_7 p_8 p_9 u_1 u_2 u_3 u_4 u_5 u_6 u_7 u_8 u_9 t_1 t_2 t_3 t_4 t_5 t_6 t_7 t_8 t_9 i_1 i_2 i_3 i_4 j_1 j_2 j_3 j_4 n k e1 e2 e3 e4 e5 same hx hy hz nl g1 nm g2 nq g3 hT1 hT2 hT3 h23 h26 aw h17 h27 aw aw h16 h28 aw h20 h29 h31 (ay c_1 c_2 c_3 c_4 c_5 c_6 c_7 c_8 c_9 aw aw (by simp)) (ay p_1 p_2 p_3 p_4 p_5 p_6 p_7 p_8 p_9 aw aw (by simp)) (ay u_1 u_2 u_3 u_4 u_5 u_6 u_7 u_8 u_9 aw aw (by simp)) (ay t_1 t_2 t_3 t_4 t_5 t_6 t_7 t_8 t_9 aw aw (by simp)) h19 h32 h18 h30 h18' h30' h30'' h34
  ·exact rg a_1 a_2 a_3 a_4 a_5 a_6 a_7 a_8 a_9 b_1 b_2 b_3 b_4 b_5 b_6 b_7 b_8 b_9 o_1 o_2 o_3 o_4 o_5 o_6 o_7 o_8 o_9 o_10 o_11 o_12 o_13 o_14 o_15 o_16 c_1 c_2 c_3 c_4 c_5 c_6 c_7 c_8 c_9 p_1 p_2 p_3 p_4 p_5 p_6 p_7 p_8 p_9 u_1 u_2 u_3 u_4 u_5 u_6 u_7 u_8 u_9 t_1 t_2 t_3 t_4 t_5 t_6 t_7 t_8 t_9 i_1 i_2 i_3 i_4 j_1 j_2 j_3 j_4 n k e1 e2 e3 e4 e5 same hx hy hz nl g1 nm g2 nq g3 nt bt hT1 hT2 hT3 h23 h26 aw h17 h27 aw aw h16 h28 (Sl.mk _ _) h20 h29 h31 (ay c_1 c_2 c_3 c_4 c_5 c_6 c_7 c_8 c_9 aw aw (by simp)) (ay p_1 p_2 p_3 p_4 p_5 p_6 p_7 p_8 p_9 aw aw (by simp)) (ay u_1 u_2 u_3 u_4 u_5 u_6 u_7 u_8 u_9 aw aw (by simp)) (ay t_1 t_2 t_3 t_4 t_5 t_6 t_7 t_8 t_9 (Sl.mk _ _) (Sl.mk _ _) (by omega)) h19 h32 h18 h30 h18' h30' h30'' h34
  ·exact rf a_1 a_2 a_3 a_4 a_5 a_6 a_7 a_8 a_9 b_1 b_2 b_3 b_4 b_5 b_6 b_7 b_8 b_9 o_1 o_2 o_3 o_4 o_5 o_6 o_7 o_8 o_9 o_10 o_11 o_12 o_13 o_14 o_15 o_16 c_1 c_2 c_3 c_4 c_5 c_6 c_7 c_8 c_9 p_1 p_2 p_3 p_4 p_5 p_6 p_7 p_8 p_9 u_1 u_2 u_3 u_4 u_5 u_6 u_7 u_8 u_9 t_1 t_2 t_3 t_4 t_5 t_6 t_7 t_8 t_9 i_1 i_2 i_3 i_4 j_1 j_2 j_3 j_4 n k e1 e2 e3 e4 e5 same hx hy hz nl g1 nm g2 nq g3 np bp nq2 bq hT1 hT2 hT3 h23 h26 aw h17 h27 (Sl.mk _ _) (Sl.mk _ _) h16 h28 aw h20 h29 h31 (ay c_1 c_2 c_3 c_4 c_5 c_6 c_7 c_8 c_9 aw aw (by simp)) (ay p_1 p_2 p_3 p_4 p_5 p_6 p_7 p_8 p_9 (Sl.mk _ _) (Sl.mk _ _) (by omega)) (ay u_1 u_2 u_3 u_4 u_5 u_6 u_7 u_8 u_9 (Sl.mk _ _) (Sl.mk _ _) (by omega)) (ay t_1 t_2 t_3 t_4 t_5 t_6 t_7 t_8 t_9 aw aw (by simp)) h19 h32 h18 h30 h18' h30' h30'' h34
  ·exact re a_1 a_2 a_3 a_4 a_5 a_6 a_7 a_8 a_9 b_1 b_2 b_3 b_4 b_5 b_6 b_7 b_8 b_9 o_1 o_2 o_3 o_4 o_5 o_6 o_7 o_8 o_9 o_10 o_11 o_12 o_13 o_14 o_15 o_16 c_1 c_2 c_3 c_4 c_5 c_6 c_7 c_8 c_9 p_1 p_2 p_3 p_4 p_5 p_6 p_7 p_8 p_9 u_1 u_2 u_3 u_4 u_5 u_6 u_7 u_8 u_9 t_1 t_2 t_3 t_4 t_5 t_6 t_7 t_8 t_9 i_1 i_2 i_3 i_4 j_1 j_2 j_3 j_4 n k e1 e2 e3 e4 e5 same hx hy hz nl g1 nm g2 nq g3 np bp nq2 bq nt bt hT1 hT2 hT3 h23 h26 aw h17 h27 (Sl.mk _ _) (Sl.mk _ _) h16 h28 (Sl.mk _ _) h20 h29 h31 (ay c_1 c_2 c_3 c_4 c_5 c_6 c_7 c_8 c_9 aw aw (by simp)) (ay p_1 p_2 p_3 p_4 p_5 p_6 p_7 p_8 p_9 (Sl.mk _ _) (Sl.mk _ _) (by omega)) (ay u_1 u_2 u_3 u_4 u_5 u_6 u_7 u_8 u_9 (Sl.mk _ _) (Sl.mk _ _) (by omega)) (ay t_1 t_2 t_3 t_4 t_5 t_6 t_7 t_8 t_9 (Sl.mk _ _) (Sl.mk _ _) (by omega)) h19 h32 h18 h30 h18' h30' h30'' h34
  ·exact q9 a_1 a_2 a_3 a_4 a_5 a_6 a_7 a_8 a_9 b_1 b_2 b_3 b_4 b_5 b_6 b_7 b_8 b_9 o_1 o_2 o_3 o_4 o_5 o_6 o_7 o_8 o_9 o_10 o_11 o_12 o_13 o_14 o_15 o_16 c_1 c_2 c_3 c_4 c_5 c_6 c_7 c_8 c_9 p_1 p_2 p_3 p_4 p_5 p_6 p_7 p_8 p_9 u_1 u_2 u_3 u_4 u_5 u_6 u_7 u_8 u_9 t_1 t_2 t_3 t_4 t_5 t_6 t_7 t_8 t_9 i_1 i_2 i_3 i_4 j_1 j_2 j_3 j_4 n k e1 e2 e3 e4 e5 same hx hy hz nl g1 nm g2 nq g3 nq (by omega) hT1 hT2 hT3 h23 h26 (Sl.mk _ _) h17 h27 aw aw h16 h28 aw h20 h29 h31 (ay c_1 c_2 c_3 c_4 c_5 c_6 c_7 c_8 c_9 (Sl.mk _ _) (Sl.mk _ _) (by omega)) (ay p_1 p_2 p_3 p_4 p_5 p_6 p_7 p_8 p_9 aw aw (by simp)) (ay u_1 u_2 u_3 u_4 u_5 u_6 u_7 u_8 u_9 aw aw (by simp)) (ay t_1 t_2 t_3 t_4 t_5 t_6 t_7 t_8 t_9 aw aw (by simp)) h19 h32 h18 h30 h18' h30' h30'' h34
  ·exact q8 a_1 a_2 a_3 a_4 a_5 a_6 a_7 a_8 a_9 b_1 b_2 b_3 b_4 b_5 b_6 b_7 b_8 b_9 o_1 o_2 o_3 o_4 o_5 o_6 o_7 o_8 o_9 o_10 o_11 o_12 o_13 o_14 o_15 o_16 c_1 c_2 c_3 c_4 c_5 c_6 c_7 c_8 c_9 p_1 p_2 p_3 p_4 p_5 p_6 p_7 p_8 p_9 u_1 u_2 u_3 u_4 u_5 u_6 u_7 u_8 u_9 t_1 t_2 t_3 t_4 t_5 t_6 t_7 t_8 t_9 i_1 i_2 i_3 i_4 j_1 j_2 j_3 j_4 n k e1 e2 e3 e4 e5 same hx hy hz nl g1 nm g2 nq g3 nq (by omega) nt bt hT1 hT2 hT3 h23 h26 (Sl.mk _ _) h17 h27 aw aw h16 h28 (Sl.mk _ _) h20 h29 h31 (ay c_1 c_2 c_3 c_4 c_5 c_6 c_7 c_8 c_9 (Sl.mk _ _) (Sl.mk _ _) (by omega)) (ay p_1 p_2 p_3 p_4 p_5 p_6 p_7 p_8 p_9 aw aw (by simp)) (ay u_1 u_2 u_3 u_4 u_5 u_6 u_7 u_8 u_9 aw aw (by simp)) (ay t_1 t_2 t_3 t_4 t_5 t_6 t_7 t_8 t_9 (Sl.mk _ _) (Sl.mk _ _) (by omega)) h19 h32 h18 h30 h18' h30' h30'' h34
  ·exact q7 a_1 a_2 a_3 a_4 a_5 a_6 a_7 a_8 a_9 b_1 b_2 b_3 b_4 b_5 b_6 b_7 b_8 b_9 o_1 o_2 o_3 o_4 o_5 o_6 o_7 o_8 o_9 o_10 o_11 o_12 o_13 o_14 o_15 o_16 c_1 c_2 c_3 c_4 c_5 c_6 c_7 c_8 c_9 p_1 p_2 p_3 p_4 p_5 p_6 p_7 p_8 p_9 u_1 u_2 u_3 u_4 u_5 u_6 u_7 u_8 u_9 t_1 t_2 t_3 t_4 t_5 t_6 t_7 t_8 t_9 i_1 i_2 i_3 i_4 j_1 j_2 j_3 j_4 n k e1 e2 e3 e4 e5 same hx hy hz nl g1 nm g2 nq g3 nq (by omega) np bp nq2 bq hT1 hT2 hT3 h23 h26 (Sl.mk _ _) h17 h27 (Sl.mk _ _) (Sl.mk _ _) h16 h28 aw h20 h29 h31 (ay c_1 c_2 c_3 c_4 c_5 c_6 c_7 c_8 c_9 (Sl.mk _ _) (Sl.mk _ _) (by omega)) (ay p_1 p_2 p_3 p_4 p_5 p_6 p_7 p_8 p_9 (Sl.mk _ _) (Sl.mk _ _) (by omega)) (ay u_1 u_2 u_3 u_4 u_5 u_6 u_7 u_8 u_9 (Sl.mk _ _) (Sl.mk _ _) (by omega)) (ay t_1 t_2 t_3 t_4 t_5 t_6 t_7 t_8 t_9 aw aw (by simp)) h19 h32 h18 h30 h18' h30' h30'' h34
  ·exact q6 a_1 a_2 a_3 a_4 a_5 a_6 a_7 a_8 a_9 b_1 b_2 b_3 b_4 b_5 b_6 b_7 b_8 b_9 o_1 o_2 o_3 o_4 o_5 o_6 o_7 o_8 o_9 o_10 o_11 o_12 o_13 o_14 o_15 o_16 c_1 c_2 c_3 c_4 c_5 c_6 c_7 c_8 c_9 p_1 p_2 p_3 p_4 p_5 p_6 p_7 p_8 p_9 u_1 u_2 u_3 u_4 u_5 u_6 u_7 u_8 u_9 t_1 t_2 t_3 t_4 t_5 t_6 t_7 t_8 t_9 i_1 i_2 i_3 i_4 j_1 j_2 j_3 j_4 n k e1 e2 e3 e4 e5 same hx hy hz nl g1 nm g2 nq g3 nq (by omega) np bp nq2 bq nt bt hT1 hT2 hT3 h23 h26 (Sl.mk _ _) h17 h27 (Sl.mk _ _) (Sl.mk _ _) h16 h28 (Sl.mk _ _) h20 h29 h31 (ay c_1 c_2 c_3 c_4 c_5 c_6 c_7 c_8 c_9 (Sl.mk _ _) (Sl.mk _ _) (by omega)) (ay p_1 p_2 p_3 p_4 p_5 p_6 p_7 p_8 p_9 (Sl.mk _ _) (Sl.mk _ _) (by omega)) (ay u_1 u_2 u_3 u_4 u_5 u_6 u_7 u_8 u_9 (Sl.mk _ _) (Sl.mk _ _) (by omega)) (ay t_1 t_2 t_3 t_4 t_5 t_6 t_7 t_8 t_9 (Sl.mk _ _) (Sl.mk _ _) (by omega)) h19 h32 h18 h30 h18' h30' h30'' h34
end Go.Proofs.Ytjampffmlnplcaa
