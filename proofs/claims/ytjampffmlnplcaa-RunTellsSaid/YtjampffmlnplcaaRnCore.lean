/-
  'Rows.RunTellsSaid': the law's run, by which rows are empty. No conditions.
-/
import Derived.Test.YtjampffmlnplcaaRnSpoil
import Derived.Test.YtjampffmlnplcaaRnVl6
set_option linter.unusedVariables false
set_option linter.unusedSimpArgs false
set_option linter.unusedSectionVars false
set_option linter.unnecessarySimpa false
set_option maxRecDepth 100000
namespace Go.Proofs.Ytjampffmlnplcaa
open Go.Ab
attribute [local simp] fK ek iQ own3 iR eo keep thr fL ew eu ky ku dJ List.take_of_length_le
set_option maxHeartbeats 4000000 in
theorem rE(a_1:UInt8)(a_2:UInt32)(a_3:UInt8)(a_4:Int)(a_5:Int)(a_6:UInt8)(a_7:UInt32)(a_8:UInt8)(a_9:Int)(b_1:UInt8)(b_2:UInt32)(b_3:UInt8)(b_4:Int)(b_5:Int)(b_6:UInt8)(b_7:UInt32)(b_8:UInt8)(b_9:Int)(o_1:UInt8)(o_2:UInt8)(o_3:UInt32)(o_4:UInt8)(o_5:Int)(o_6:UInt8)(o_7:UInt32)(o_8:UInt8)(o_9:Int)(o_10:Int)(o_11:UInt8)(o_12:UInt32)(o_13:UInt8)(o_14:Int)(o_15:UInt8)(o_16:UInt32)(c_1:UInt8)(c_2:UInt32)(c_3:UInt8)(c_4:Int)(c_5:Int)(c_6:UInt8)(c_7:UInt32)(c_8:UInt8)(c_9:Int)(p_1:UInt8)(p_2:UInt32)(p_3:UInt8)(p_4:Int)(p_5:Int)(p_6:UInt8)(p_7:UInt32)(p_8:UInt8)(p_9:Int)(u_1:UInt8)(u_2:UInt32)(u_3:UInt8)(u_4:Int)(u_5:Int)(u_6:UInt8)(u_7:UInt32)(u_8:UInt8)(u_9:Int)(t_1:UInt8)(t_2:UInt32)(t_3:UInt8)(t_4:Int)(t_5:Int)(t_6:UInt8)(t_7:UInt32)(t_8:UInt8)(t_9:Int)(i_1:UInt8)(i_2:UInt32)(i_3:UInt8)(i_4:Int)(j_1:UInt8)(j_2:UInt32)(j_3:UInt8)(j_4:Int)(n k e1 e2 e3 e4 e5:Int)(same:Bool){x0 x1 x2 y1 y2 y3 y4:AV}
 (hx:Sl 1 (rows ([]:List Int)) x0) (hy:Sl 1 (rows ([]:List Int)) x1) (hz:Sl 1 (rows ([]:List Int)) x2)
 (hT1:limf env 24 [.agg [a8 a_1,a32 a_2,a8 a_3,aI a_4,aI a_5,a8 a_6,a32 a_7,a8 a_8,aI a_9,x0]]=some (.agg [a8 a_1,a32 a_2,a8 a_3,aI a_4,aI a_5,a8 a_6,a32 a_7,a8 a_8,aI a_9,aNil])) (hT2:limf env 24 [.agg [a8 b_1,a32 b_2,a8 b_3,aI b_4,aI b_5,a8 b_6,a32 b_7,a8 b_8,aI b_9,x1]]=some (.agg [a8 b_1,a32 b_2,a8 b_3,aI b_4,aI b_5,a8 b_6,a32 b_7,a8 b_8,aI b_9,aNil])) (hT3:limf env 25 [.agg [a8 o_1,a8 o_2,a32 o_3,a8 o_4,aI o_5,a8 o_6,a32 o_7,a8 o_8,aI o_9,aI o_10,a8 o_11,a32 o_12,a8 o_13,aI o_14,a8 o_15,a32 o_16,x2]]=some (.agg [a8 o_1,a8 o_2,a32 o_3,a8 o_4,aI o_5,a8 o_6,a32 o_7,a8 o_8,aI o_9,aI o_10,a8 o_11,a32 o_12,a8 o_13,aI o_14,a8 o_15,a32 o_16,aNil]))
 (h23:limf env 23 [.agg [a8 o_1,a8 o_2,a32 o_3,a8 o_4,aI o_5,a8 o_6,a32 o_7,a8 o_8,aI o_9,aI o_10,a8 o_11,a32 o_12,a8 o_13,aI o_14,a8 o_15,a32 o_16,aNil]]=some (.tup [.agg [a8 c_1,a32 c_2,a8 c_3,aI c_4,aI c_5,a8 c_6,a32 c_7,a8 c_8,aI c_9,aNil],aI e1])) (h26:limf env 26 [.agg [a8 o_1,a8 o_2,a32 o_3,a8 o_4,aI o_5,a8 o_6,a32 o_7,a8 o_8,aI o_9,aI o_10,a8 o_11,a32 o_12,a8 o_13,aI o_14,a8 o_15,a32 o_16,x2]]=some (.tup [.agg [a8 c_1,a32 c_2,a8 c_3,aI c_4,aI c_5,a8 c_6,a32 c_7,a8 c_8,aI c_9,y1],aI e1])) (s1:Sl 1 (rows ([]:List Int)) y1)
 (h17:limf env 17 [.agg [a8 a_1,a32 a_2,a8 a_3,aI a_4,aI a_5,a8 a_6,a32 a_7,a8 a_8,aI a_9,aNil],aI n]=some (.tup [.agg [a8 p_1,a32 p_2,a8 p_3,aI p_4,aI p_5,a8 p_6,a32 p_7,a8 p_8,aI p_9,aNil],.agg [a8 u_1,a32 u_2,a8 u_3,aI u_4,aI u_5,a8 u_6,a32 u_7,a8 u_8,aI u_9,aNil],aI e2])) (h27:limf env 27 [.agg [a8 a_1,a32 a_2,a8 a_3,aI a_4,aI a_5,a8 a_6,a32 a_7,a8 a_8,aI a_9,x0],aI n]=some (.tup [.agg [a8 p_1,a32 p_2,a8 p_3,aI p_4,aI p_5,a8 p_6,a32 p_7,a8 p_8,aI p_9,y2],.agg [a8 u_1,a32 u_2,a8 u_3,aI u_4,aI u_5,a8 u_6,a32 u_7,a8 u_8,aI u_9,y3],aI e2])) (s2:Sl 1 (rows ([]:List Int)) y2) (s3:Sl 1 (rows ([]:List Int)) y3)
 (h16:limf env 16 [.agg [a8 a_1,a32 a_2,a8 a_3,aI a_4,aI a_5,a8 a_6,a32 a_7,a8 a_8,aI a_9,aNil],.agg [a8 b_1,a32 b_2,a8 b_3,aI b_4,aI b_5,a8 b_6,a32 b_7,a8 b_8,aI b_9,aNil]]=some (.tup [.agg [a8 t_1,a32 t_2,a8 t_3,aI t_4,aI t_5,a8 t_6,a32 t_7,a8 t_8,aI t_9,aNil],aI e3])) (h28:limf env 28 [.agg [a8 a_1,a32 a_2,a8 a_3,aI a_4,aI a_5,a8 a_6,a32 a_7,a8 a_8,aI a_9,x0],.agg [a8 b_1,a32 b_2,a8 b_3,aI b_4,aI b_5,a8 b_6,a32 b_7,a8 b_8,aI b_9,x1]]=some (.tup [.agg [a8 t_1,a32 t_2,a8 t_3,aI t_4,aI t_5,a8 t_6,a32 t_7,a8 t_8,aI t_9,y4],aI e3])) (s4:Sl 1 (rows ([]:List Int)) y4)
 (h20:limf env 20 [.agg [a8 a_1,a32 a_2,a8 a_3,aI a_4,aI a_5,a8 a_6,a32 a_7,a8 a_8,aI a_9,aNil],aI n]=some (.tup [.agg [a8 i_1,a32 i_2,a8 i_3,aI i_4],.agg [a8 j_1,a32 j_2,a8 j_3,aI j_4],.v (.int .i32 k),aI e4])) (h29:limf env 29 [.agg [a8 a_1,a32 a_2,a8 a_3,aI a_4,aI a_5,a8 a_6,a32 a_7,a8 a_8,aI a_9,x0],aI n]=some (.tup [.agg [a8 i_1,a32 i_2,a8 i_3,aI i_4],.agg [a8 j_1,a32 j_2,a8 j_3,aI j_4],.v (.int .i32 k),aI e4]))
 (h31:limf env 31 [.agg [a8 a_1,a32 a_2,a8 a_3,aI a_4,aI a_5,a8 a_6,a32 a_7,a8 a_8,aI a_9,aNil]]=some (.agg [a8 a_1,a32 a_2,a8 a_3,aI a_4,aI a_5,a8 a_6,a32 a_7,a8 a_8,aI a_9,aNil]))
 (hS1:limf env 30 [.agg [a8 c_1,a32 c_2,a8 c_3,aI c_4,aI c_5,a8 c_6,a32 c_7,a8 c_8,aI c_9,aNil],.agg [a8 c_1,a32 c_2,a8 c_3,aI c_4,aI c_5,a8 c_6,a32 c_7,a8 c_8,aI c_9,y1]]=some (aB true)) (hS2:limf env 30 [.agg [a8 p_1,a32 p_2,a8 p_3,aI p_4,aI p_5,a8 p_6,a32 p_7,a8 p_8,aI p_9,aNil],.agg [a8 p_1,a32 p_2,a8 p_3,aI p_4,aI p_5,a8 p_6,a32 p_7,a8 p_8,aI p_9,y2]]=some (aB true)) (hS3:limf env 30 [.agg [a8 u_1,a32 u_2,a8 u_3,aI u_4,aI u_5,a8 u_6,a32 u_7,a8 u_8,aI u_9,aNil],.agg [a8 u_1,a32 u_2,a8 u_3,aI u_4,aI u_5,a8 u_6,a32 u_7,a8 u_8,aI u_9,y3]]=some (aB true)) (hS4:limf env 30 [.agg [a8 t_1,a32 t_2,a8 t_3,aI t_4,aI t_5,a8 t_6,a32 t_7,a8 t_8,aI t_9,aNil],.agg [a8 t_1,a32 t_2,a8 t_3,aI t_4,aI t_5,a8 t_6,a32 t_7,a8 t_8,aI t_9,y4]]=some (aB true))
 (h19:limf env 19 [.agg [a8 a_1,a32 a_2,a8 a_3,aI a_4,aI a_5,a8 a_6,a32 a_7,a8 a_8,aI a_9,aNil]]=some (aI e5)) (h32:limf env 32 [.agg [a8 a_1,a32 a_2,a8 a_3,aI a_4,aI a_5,a8 a_6,a32 a_7,a8 a_8,aI a_9,x0]]=some (aI e5)) (h18:limf env 18 [.agg [a8 a_1,a32 a_2,a8 a_3,aI a_4,aI a_5,a8 a_6,a32 a_7,a8 a_8,aI a_9,aNil],.agg [a8 b_1,a32 b_2,a8 b_3,aI b_4,aI b_5,a8 b_6,a32 b_7,a8 b_8,aI b_9,aNil]]=some (aB same)) (h30:limf env 30 [.agg [a8 a_1,a32 a_2,a8 a_3,aI a_4,aI a_5,a8 a_6,a32 a_7,a8 a_8,aI a_9,x0],.agg [a8 b_1,a32 b_2,a8 b_3,aI b_4,aI b_5,a8 b_6,a32 b_7,a8 b_8,aI b_9,x1]]=some (aB same)) (h18':limf env 18 [.agg [a8 a_1,a32 a_2,a8 a_3,aI a_4,aI a_5,a8 a_6,a32 a_7,a8 a_8,aI a_9,aNil],.agg [a8 a_1,a32 a_2,a8 a_3,aI a_4,aI a_5,a8 a_6,a32 a_7,a8 a_8,aI a_9,x0]]=some (aB true)) (h30':limf env 30 [.agg [a8 a_1,a32 a_2,a8 a_3,aI a_4,aI a_5,a8 a_6,a32 a_7,a8 a_8,aI a_9,aNil],.agg [a8 a_1,a32 a_2,a8 a_3,aI a_4,aI a_5,a8 a_6,a32 a_7,a8 a_8,aI a_9,x0]]=some (aB true)) (h30'':limf env 30 [.agg [a8 b_1,a32 b_2,a8 b_3,aI b_4,aI b_5,a8 b_6,a32 b_7,a8 b_8,aI b_9,aNil],.agg [a8 b_1,a32 b_2,a8 b_3,aI b_4,aI b_5,a8 b_6,a32 b_7,a8 b_8,aI b_9,x1]]=some (aB true)) (h34:limf env 34 [.agg [a8 o_1,a8 o_2,a32 o_3,a8 o_4,aI o_5,a8 o_6,a32 o_7,a8 o_8,aI o_9,aI o_10,a8 o_11,a32 o_12,a8 o_13,aI o_14,a8 o_15,a32 o_16,aNil],.agg [a8 o_1,a8 o_2,a32 o_3,a8 o_4,aI o_5,a8 o_6,a32 o_7,a8 o_8,aI o_9,aI o_10,a8 o_11,a32 o_12,a8 o_13,aI o_14,a8 o_15,a32 o_16,x2]]=some (aB true)) :
 limf env 6 [.agg [a8 a_1,a32 a_2,a8 a_3,aI a_4,aI a_5,a8 a_6,a32 a_7,a8 a_8,aI a_9,x0],.agg [a8 b_1,a32 b_2,a8 b_3,aI b_4,aI b_5,a8 b_6,a32 b_7,a8 b_8,aI b_9,x1],.agg [a8 o_1,a8 o_2,a32 o_3,a8 o_4,aI o_5,a8 o_6,a32 o_7,a8 o_8,aI o_9,aI o_10,a8 o_11,a32 o_12,a8 o_13,aI o_14,a8 o_15,a32 o_16,x2],aI n]=some (aB true):=by
 have hF1:=fun H r=>aG (H:=H) (f:=24) (by kernel_rfl) false 0 r (args:=[.agg [a8 a_1,a32 a_2,a8 a_3,aI a_4,aI a_5,a8 a_6,a32 a_7,a8 a_8,aI a_9,x0]]) (by simp[hx.r]) (by simp[hx.r]) hT1
 have hF2:=fun H r=>aG (H:=H) (f:=24) (by kernel_rfl) false 0 r (args:=[.agg [a8 b_1,a32 b_2,a8 b_3,aI b_4,aI b_5,a8 b_6,a32 b_7,a8 b_8,aI b_9,x1]]) (by simp[hy.r]) (by simp[hy.r]) hT2
 clear hT1 hT2
 refine aC (fn:=Try.f6) (c:=ai) rfl (by kernel_rfl) (by kernel_rfl) (by kernel_rfl) (by kernel_rfl) ?_;refine aq _ _ _ _ _ _ fun g=>?_
 simp[ar,au,ae,af,ab, *,aj,hx.r,hy.r,hz.r,s1.r,s2.r,s3.r,s4.r,frzB,eqA,eqFs]
 refine az c_1 c_2 c_3 c_4 c_5 c_6 c_7 c_8 c_9 ([]:List Int) ?_ ?_ (by simp) (fun v0 J0 F0 k0=>?_)
 ·exact bz rfl
 ·exact(.inl ⟨rfl,rfl⟩)
 have c0_p:=k0 ⟨0,16,0,0⟩ _ (fun e=>by cases e) rfl
 have c0_u:=k0 ⟨0,17,0,0⟩ _ (fun e=>by cases e) rfl
 have c0_t:=k0 ⟨0,22,0,0⟩ _ (fun e=>by cases e) rfl
 have c0_v:=k0 ⟨0,35,0,0⟩ _ (fun e=>by cases e) rfl
 have d0_4:=k0 ⟨0,4,0,0⟩ _ (fun e=>by cases e) rfl
 have d0_5:=k0 ⟨0,5,0,0⟩ _ (fun e=>by cases e) rfl
 have d0_6:=k0 ⟨0,6,0,0⟩ _ (fun e=>by cases e) rfl
 have d0_9:=k0 ⟨0,9,0,0⟩ _ (fun e=>by cases e) rfl
 have d0_10:=k0 ⟨0,10,0,0⟩ _ (fun e=>by cases e) rfl
 have d0_11:=k0 ⟨0,11,0,0⟩ _ (fun e=>by cases e) rfl
 clear k0
 simp[c0_p]
 refine az p_1 p_2 p_3 p_4 p_5 p_6 p_7 p_8 p_9 ([]:List Int) ?_ ?_ (by simp) (fun v1 J1 F1 k1=>?_)
 ·exact F0
 ·exact(.inl ⟨rfl,rfl⟩)
 have c1_u:=k1 ⟨0,17,0,0⟩ _ (fun e=>by cases e) c0_u
 have c1_t:=k1 ⟨0,22,0,0⟩ _ (fun e=>by cases e) c0_t
 have c1_v:=k1 ⟨0,35,0,0⟩ _ (fun e=>by cases e) c0_v
 have d1_4:=k1 ⟨0,4,0,0⟩ _ (fun e=>by cases e) d0_4
 have d1_5:=k1 ⟨0,5,0,0⟩ _ (fun e=>by cases e) d0_5
 have d1_6:=k1 ⟨0,6,0,0⟩ _ (fun e=>by cases e) d0_6
 have d1_9:=k1 ⟨0,9,0,0⟩ _ (fun e=>by cases e) d0_9
 have d1_10:=k1 ⟨0,10,0,0⟩ _ (fun e=>by cases e) d0_10
 have d1_11:=k1 ⟨0,11,0,0⟩ _ (fun e=>by cases e) d0_11
 clear k1
 simp[c1_u]
 refine az u_1 u_2 u_3 u_4 u_5 u_6 u_7 u_8 u_9 ([]:List Int) ?_ ?_ (by simp) (fun v2 J2 F2 k2=>?_)
 ·exact F1
 ·exact(.inl ⟨rfl,rfl⟩)
 have c2_t:=k2 ⟨0,22,0,0⟩ _ (fun e=>by cases e) c1_t
 have c2_v:=k2 ⟨0,35,0,0⟩ _ (fun e=>by cases e) c1_v
 have d2_4:=k2 ⟨0,4,0,0⟩ _ (fun e=>by cases e) d1_4
 have d2_5:=k2 ⟨0,5,0,0⟩ _ (fun e=>by cases e) d1_5
 have d2_6:=k2 ⟨0,6,0,0⟩ _ (fun e=>by cases e) d1_6
 have d2_9:=k2 ⟨0,9,0,0⟩ _ (fun e=>by cases e) d1_9
 have d2_10:=k2 ⟨0,10,0,0⟩ _ (fun e=>by cases e) d1_10
 have d2_11:=k2 ⟨0,11,0,0⟩ _ (fun e=>by cases e) d1_11
 clear k2
 simp[c2_t]
 refine az t_1 t_2 t_3 t_4 t_5 t_6 t_7 t_8 t_9 ([]:List Int) ?_ ?_ (by simp) (fun v3 J3 F3 k3=>?_)
 ·exact F2
 ·exact(.inl ⟨rfl,rfl⟩)
 have c3_v:=k3 ⟨0,35,0,0⟩ _ (fun e=>by cases e) c2_v
 have d3_4:=k3 ⟨0,4,0,0⟩ _ (fun e=>by cases e) d2_4
 have d3_5:=k3 ⟨0,5,0,0⟩ _ (fun e=>by cases e) d2_5
 have d3_6:=k3 ⟨0,6,0,0⟩ _ (fun e=>by cases e) d2_6
 have d3_9:=k3 ⟨0,9,0,0⟩ _ (fun e=>by cases e) d2_9
 have d3_10:=k3 ⟨0,10,0,0⟩ _ (fun e=>by cases e) d2_10
 have d3_11:=k3 ⟨0,11,0,0⟩ _ (fun e=>by cases e) d2_11
 clear k3
 simp[c3_v]
 refine az a_1 a_2 a_3 a_4 a_5 a_6 a_7 a_8 a_9 ([]:List Int) ?_ ?_ (by simp) (fun v4 J4 F4 k4=>?_)
 ·exact F3
 ·exact(.inl ⟨rfl,rfl⟩)
 have d4_4:=k4 ⟨0,4,0,0⟩ _ (fun e=>by cases e) d3_4
 have d4_5:=k4 ⟨0,5,0,0⟩ _ (fun e=>by cases e) d3_5
 have d4_6:=k4 ⟨0,6,0,0⟩ _ (fun e=>by cases e) d3_6
 have d4_9:=k4 ⟨0,9,0,0⟩ _ (fun e=>by cases e) d3_9
 have d4_10:=k4 ⟨0,10,0,0⟩ _ (fun e=>by cases e) d3_10
 have d4_11:=k4 ⟨0,11,0,0⟩ _ (fun e=>by cases e) d3_11
 clear k4
 simp[d4_4,d4_5,d4_6,d4_9,d4_10,d4_11,hx.r,hy.r,hz.r,h30',h30'',h34]
set_option maxHeartbeats 4000000 in
theorem rD(a_1:UInt8)(a_2:UInt32)(a_3:UInt8)(a_4:Int)(a_5:Int)(a_6:UInt8)(a_7:UInt32)(a_8:UInt8)(a_9:Int)(b_1:UInt8)(b_2:UInt32)(b_3:UInt8)(b_4:Int)(b_5:Int)(b_6:UInt8)(b_7:UInt32)(b_8:UInt8)(b_9:Int)(o_1:UInt8)(o_2:UInt8)(o_3:UInt32)(o_4:UInt8)(o_5:Int)(o_6:UInt8)(o_7:UInt32)(o_8:UInt8)(o_9:Int)(o_10:Int)(o_11:UInt8)(o_12:UInt32)(o_13:UInt8)(o_14:Int)(o_15:UInt8)(o_16:UInt32)(c_1:UInt8)(c_2:UInt32)(c_3:UInt8)(c_4:Int)(c_5:Int)(c_6:UInt8)(c_7:UInt32)(c_8:UInt8)(c_9:Int)(p_1:UInt8)(p_2:UInt32)(p_3:UInt8)(p_4:Int)(p_5:Int)(p_6:UInt8)(p_7:UInt32)(p_8:UInt8)(p_9:Int)(u_1:UInt8)(u_2:UInt32)(u_3:UInt8)(u_4:Int)(u_5:Int)(u_6:UInt8)(u_7:UInt32)(u_8:UInt8)(u_9:Int)(t_1:UInt8)(t_2:UInt32)(t_3:UInt8)(t_4:Int)(t_5:Int)(t_6:UInt8)(t_7:UInt32)(t_8:UInt8)(t_9:Int)(i_1:UInt8)(i_2:UInt32)(i_3:UInt8)(i_4:Int)(j_1:UInt8)(j_2:UInt32)(j_3:UInt8)(j_4:Int)(n k e1 e2 e3 e4 e5:Int)(same:Bool){x0 x1 x2 y1 y2 y3 y4:AV}{q:List Int}
 (hx:Sl 1 (rows ([]:List Int)) x0) (hy:Sl 1 (rows ([]:List Int)) x1) (hz:Sl 1 (rows q) x2)
 (nq:rows q≠[]) (gq : ¬(1000:Int)<q.length)
 (hT1:limf env 24 [.agg [a8 a_1,a32 a_2,a8 a_3,aI a_4,aI a_5,a8 a_6,a32 a_7,a8 a_8,aI a_9,x0]]=some (.agg [a8 a_1,a32 a_2,a8 a_3,aI a_4,aI a_5,a8 a_6,a32 a_7,a8 a_8,aI a_9,aNil])) (hT2:limf env 24 [.agg [a8 b_1,a32 b_2,a8 b_3,aI b_4,aI b_5,a8 b_6,a32 b_7,a8 b_8,aI b_9,x1]]=some (.agg [a8 b_1,a32 b_2,a8 b_3,aI b_4,aI b_5,a8 b_6,a32 b_7,a8 b_8,aI b_9,aNil])) (hT3:limf env 25 [.agg [a8 o_1,a8 o_2,a32 o_3,a8 o_4,aI o_5,a8 o_6,a32 o_7,a8 o_8,aI o_9,aI o_10,a8 o_11,a32 o_12,a8 o_13,aI o_14,a8 o_15,a32 o_16,x2]]=some (.agg [a8 o_1,a8 o_2,a32 o_3,a8 o_4,aI o_5,a8 o_6,a32 o_7,a8 o_8,aI o_9,aI o_10,a8 o_11,a32 o_12,a8 o_13,aI o_14,a8 o_15,a32 o_16,(.isl 1 (rows q) none)]))
 (h23:limf env 23 [.agg [a8 o_1,a8 o_2,a32 o_3,a8 o_4,aI o_5,a8 o_6,a32 o_7,a8 o_8,aI o_9,aI o_10,a8 o_11,a32 o_12,a8 o_13,aI o_14,a8 o_15,a32 o_16,(.isl 1 (rows q) none)]]=some (.tup [.agg [a8 c_1,a32 c_2,a8 c_3,aI c_4,aI c_5,a8 c_6,a32 c_7,a8 c_8,aI c_9,aNil],aI e1])) (h26:limf env 26 [.agg [a8 o_1,a8 o_2,a32 o_3,a8 o_4,aI o_5,a8 o_6,a32 o_7,a8 o_8,aI o_9,aI o_10,a8 o_11,a32 o_12,a8 o_13,aI o_14,a8 o_15,a32 o_16,x2]]=some (.tup [.agg [a8 c_1,a32 c_2,a8 c_3,aI c_4,aI c_5,a8 c_6,a32 c_7,a8 c_8,aI c_9,y1],aI e1])) (s1:Sl 1 (rows ([]:List Int)) y1)
 (h17:limf env 17 [.agg [a8 a_1,a32 a_2,a8 a_3,aI a_4,aI a_5,a8 a_6,a32 a_7,a8 a_8,aI a_9,aNil],aI n]=some (.tup [.agg [a8 p_1,a32 p_2,a8 p_3,aI p_4,aI p_5,a8 p_6,a32 p_7,a8 p_8,aI p_9,aNil],.agg [a8 u_1,a32 u_2,a8 u_3,aI u_4,aI u_5,a8 u_6,a32 u_7,a8 u_8,aI u_9,aNil],aI e2])) (h27:limf env 27 [.agg [a8 a_1,a32 a_2,a8 a_3,aI a_4,aI a_5,a8 a_6,a32 a_7,a8 a_8,aI a_9,x0],aI n]=some (.tup [.agg [a8 p_1,a32 p_2,a8 p_3,aI p_4,aI p_5,a8 p_6,a32 p_7,a8 p_8,aI p_9,y2],.agg [a8 u_1,a32 u_2,a8 u_3,aI u_4,aI u_5,a8 u_6,a32 u_7,a8 u_8,aI u_9,y3],aI e2])) (s2:Sl 1 (rows ([]:List Int)) y2) (s3:Sl 1 (rows ([]:List Int)) y3)
 (h16:limf env 16 [.agg [a8 a_1,a32 a_2,a8 a_3,aI a_4,aI a_5,a8 a_6,a32 a_7,a8 a_8,aI a_9,aNil],.agg [a8 b_1,a32 b_2,a8 b_3,aI b_4,aI b_5,a8 b_6,a32 b_7,a8 b_8,aI b_9,aNil]]=some (.tup [.agg [a8 t_1,a32 t_2,a8 t_3,aI t_4,aI t_5,a8 t_6,a32 t_7,a8 t_8,aI t_9,aNil],aI e3])) (h28:limf env 28 [.agg [a8 a_1,a32 a_2,a8 a_3,aI a_4,aI a_5,a8 a_6,a32 a_7,a8 a_8,aI a_9,x0],.agg [a8 b_1,a32 b_2,a8 b_3,aI b_4,aI b_5,a8 b_6,a32 b_7,a8 b_8,aI b_9,x1]]=some (.tup [.agg [a8 t_1,a32 t_2,a8 t_3,aI t_4,aI t_5,a8 t_6,a32 t_7,a8 t_8,aI t_9,y4],aI e3])) (s4:Sl 1 (rows ([]:List Int)) y4)
 (h20:limf env 20 [.agg [a8 a_1,a32 a_2,a8 a_3,aI a_4,aI a_5,a8 a_6,a32 a_7,a8 a_8,aI a_9,aNil],aI n]=some (.tup [.agg [a8 i_1,a32 i_2,a8 i_3,aI i_4],.agg [a8 j_1,a32 j_2,a8 j_3,aI j_4],.v (.int .i32 k),aI e4])) (h29:limf env 29 [.agg [a8 a_1,a32 a_2,a8 a_3,aI a_4,aI a_5,a8 a_6,a32 a_7,a8 a_8,aI a_9,x0],aI n]=some (.tup [.agg [a8 i_1,a32 i_2,a8 i_3,aI i_4],.agg [a8 j_1,a32 j_2,a8 j_3,aI j_4],.v (.int .i32 k),aI e4]))
 (h31:limf env 31 [.agg [a8 a_1,a32 a_2,a8 a_3,aI a_4,aI a_5,a8 a_6,a32 a_7,a8 a_8,aI a_9,aNil]]=some (.agg [a8 a_1,a32 a_2,a8 a_3,aI a_4,aI a_5,a8 a_6,a32 a_7,a8 a_8,aI a_9,aNil]))
 (hS1:limf env 30 [.agg [a8 c_1,a32 c_2,a8 c_3,aI c_4,aI c_5,a8 c_6,a32 c_7,a8 c_8,aI c_9,aNil],.agg [a8 c_1,a32 c_2,a8 c_3,aI c_4,aI c_5,a8 c_6,a32 c_7,a8 c_8,aI c_9,y1]]=some (aB true)) (hS2:limf env 30 [.agg [a8 p_1,a32 p_2,a8 p_3,aI p_4,aI p_5,a8 p_6,a32 p_7,a8 p_8,aI p_9,aNil],.agg [a8 p_1,a32 p_2,a8 p_3,aI p_4,aI p_5,a8 p_6,a32 p_7,a8 p_8,aI p_9,y2]]=some (aB true)) (hS3:limf env 30 [.agg [a8 u_1,a32 u_2,a8 u_3,aI u_4,aI u_5,a8 u_6,a32 u_7,a8 u_8,aI u_9,aNil],.agg [a8 u_1,a32 u_2,a8 u_3,aI u_4,aI u_5,a8 u_6,a32 u_7,a8 u_8,aI u_9,y3]]=some (aB true)) (hS4:limf env 30 [.agg [a8 t_1,a32 t_2,a8 t_3,aI t_4,aI t_5,a8 t_6,a32 t_7,a8 t_8,aI t_9,aNil],.agg [a8 t_1,a32 t_2,a8 t_3,aI t_4,aI t_5,a8 t_6,a32 t_7,a8 t_8,aI t_9,y4]]=some (aB true))
 (h19:limf env 19 [.agg [a8 a_1,a32 a_2,a8 a_3,aI a_4,aI a_5,a8 a_6,a32 a_7,a8 a_8,aI a_9,aNil]]=some (aI e5)) (h32:limf env 32 [.agg [a8 a_1,a32 a_2,a8 a_3,aI a_4,aI a_5,a8 a_6,a32 a_7,a8 a_8,aI a_9,x0]]=some (aI e5)) (h18:limf env 18 [.agg [a8 a_1,a32 a_2,a8 a_3,aI a_4,aI a_5,a8 a_6,a32 a_7,a8 a_8,aI a_9,aNil],.agg [a8 b_1,a32 b_2,a8 b_3,aI b_4,aI b_5,a8 b_6,a32 b_7,a8 b_8,aI b_9,aNil]]=some (aB same)) (h30:limf env 30 [.agg [a8 a_1,a32 a_2,a8 a_3,aI a_4,aI a_5,a8 a_6,a32 a_7,a8 a_8,aI a_9,x0],.agg [a8 b_1,a32 b_2,a8 b_3,aI b_4,aI b_5,a8 b_6,a32 b_7,a8 b_8,aI b_9,x1]]=some (aB same)) (h18':limf env 18 [.agg [a8 a_1,a32 a_2,a8 a_3,aI a_4,aI a_5,a8 a_6,a32 a_7,a8 a_8,aI a_9,aNil],.agg [a8 a_1,a32 a_2,a8 a_3,aI a_4,aI a_5,a8 a_6,a32 a_7,a8 a_8,aI a_9,x0]]=some (aB true)) (h30':limf env 30 [.agg [a8 a_1,a32 a_2,a8 a_3,aI a_4,aI a_5,a8 a_6,a32 a_7,a8 a_8,aI a_9,aNil],.agg [a8 a_1,a32 a_2,a8 a_3,aI a_4,aI a_5,a8 a_6,a32 a_7,a8 a_8,aI a_9,x0]]=some (aB true)) (h30'':limf env 30 [.agg [a8 b_1,a32 b_2,a8 b_3,aI b_4,aI b_5,a8 b_6,a32 b_7,a8 b_8,aI b_9,aNil],.agg [a8 b_1,a32 b_2,a8 b_3,aI b_4,aI b_5,a8 b_6,a32 b_7,a8 b_8,aI b_9,x1]]=some (aB true)) (h34:limf env 34 [.agg [a8 o_1,a8 o_2,a32 o_3,a8 o_4,aI o_5,a8 o_6,a32 o_7,a8 o_8,aI o_9,aI o_10,a8 o_11,a32 o_12,a8 o_13,aI o_14,a8 o_15,a32 o_16,(.isl 1 (rows q) none)],.agg [a8 o_1,a8 o_2,a32 o_3,a8 o_4,aI o_5,a8 o_6,a32 o_7,a8 o_8,aI o_9,aI o_10,a8 o_11,a32 o_12,a8 o_13,aI o_14,a8 o_15,a32 o_16,x2]]=some (aB true)) :
 limf env 6 [.agg [a8 a_1,a32 a_2,a8 a_3,aI a_4,aI a_5,a8 a_6,a32 a_7,a8 a_8,aI a_9,x0],.agg [a8 b_1,a32 b_2,a8 b_3,aI b_4,aI b_5,a8 b_6,a32 b_7,a8 b_8,aI b_9,x1],.agg [a8 o_1,a8 o_2,a32 o_3,a8 o_4,aI o_5,a8 o_6,a32 o_7,a8 o_8,aI o_9,aI o_10,a8 o_11,a32 o_12,a8 o_13,aI o_14,a8 o_15,a32 o_16,x2],aI n]=some (aB true):=by
 have hF1:=fun H r=>aG (H:=H) (f:=24) (by kernel_rfl) false 0 r (args:=[.agg [a8 a_1,a32 a_2,a8 a_3,aI a_4,aI a_5,a8 a_6,a32 a_7,a8 a_8,aI a_9,x0]]) (by simp[hx.r]) (by simp[hx.r]) hT1
 have hF2:=fun H r=>aG (H:=H) (f:=24) (by kernel_rfl) false 0 r (args:=[.agg [a8 b_1,a32 b_2,a8 b_3,aI b_4,aI b_5,a8 b_6,a32 b_7,a8 b_8,aI b_9,x1]]) (by simp[hy.r]) (by simp[hy.r]) hT2
 clear hT1 hT2
 refine aC (fn:=Try.f6) (c:=ai) rfl (by kernel_rfl) (by kernel_rfl) (by kernel_rfl) (by kernel_rfl) ?_;refine aq _ _ _ _ _ _ fun g=>?_
 simp[ar,au,ae,af,ab, *,aj,hx.r,hy.r,hz.r,s1.r,s2.r,s3.r,s4.r,frzB,eqA,eqFs]
 refine az c_1 c_2 c_3 c_4 c_5 c_6 c_7 c_8 c_9 ([]:List Int) ?_ ?_ (by simp) (fun v0 J0 F0 k0=>?_)
 ·exact bz rfl
 ·exact(.inl ⟨rfl,rfl⟩)
 have c0_p:=k0 ⟨0,16,0,0⟩ _ (fun e=>by cases e) rfl
 have c0_u:=k0 ⟨0,17,0,0⟩ _ (fun e=>by cases e) rfl
 have c0_t:=k0 ⟨0,22,0,0⟩ _ (fun e=>by cases e) rfl
 have c0_v:=k0 ⟨0,35,0,0⟩ _ (fun e=>by cases e) rfl
 have d0_4:=k0 ⟨0,4,0,0⟩ _ (fun e=>by cases e) rfl
 have d0_5:=k0 ⟨0,5,0,0⟩ _ (fun e=>by cases e) rfl
 have d0_6:=k0 ⟨0,6,0,0⟩ _ (fun e=>by cases e) rfl
 have d0_9:=k0 ⟨0,9,0,0⟩ _ (fun e=>by cases e) rfl
 have d0_10:=k0 ⟨0,10,0,0⟩ _ (fun e=>by cases e) rfl
 have d0_11:=k0 ⟨0,11,0,0⟩ _ (fun e=>by cases e) rfl
 clear k0
 simp[c0_p]
 refine az p_1 p_2 p_3 p_4 p_5 p_6 p_7 p_8 p_9 ([]:List Int) ?_ ?_ (by simp) (fun v1 J1 F1 k1=>?_)
 ·exact F0
 ·exact(.inl ⟨rfl,rfl⟩)
 have c1_u:=k1 ⟨0,17,0,0⟩ _ (fun e=>by cases e) c0_u
 have c1_t:=k1 ⟨0,22,0,0⟩ _ (fun e=>by cases e) c0_t
 have c1_v:=k1 ⟨0,35,0,0⟩ _ (fun e=>by cases e) c0_v
 have d1_4:=k1 ⟨0,4,0,0⟩ _ (fun e=>by cases e) d0_4
 have d1_5:=k1 ⟨0,5,0,0⟩ _ (fun e=>by cases e) d0_5
 have d1_6:=k1 ⟨0,6,0,0⟩ _ (fun e=>by cases e) d0_6
 have d1_9:=k1 ⟨0,9,0,0⟩ _ (fun e=>by cases e) d0_9
 have d1_10:=k1 ⟨0,10,0,0⟩ _ (fun e=>by cases e) d0_10
 have d1_11:=k1 ⟨0,11,0,0⟩ _ (fun e=>by cases e) d0_11
 clear k1
 simp[c1_u]
 refine az u_1 u_2 u_3 u_4 u_5 u_6 u_7 u_8 u_9 ([]:List Int) ?_ ?_ (by simp) (fun v2 J2 F2 k2=>?_)
 ·exact F1
 ·exact(.inl ⟨rfl,rfl⟩)
 have c2_t:=k2 ⟨0,22,0,0⟩ _ (fun e=>by cases e) c1_t
 have c2_v:=k2 ⟨0,35,0,0⟩ _ (fun e=>by cases e) c1_v
 have d2_4:=k2 ⟨0,4,0,0⟩ _ (fun e=>by cases e) d1_4
 have d2_5:=k2 ⟨0,5,0,0⟩ _ (fun e=>by cases e) d1_5
 have d2_6:=k2 ⟨0,6,0,0⟩ _ (fun e=>by cases e) d1_6
 have d2_9:=k2 ⟨0,9,0,0⟩ _ (fun e=>by cases e) d1_9
 have d2_10:=k2 ⟨0,10,0,0⟩ _ (fun e=>by cases e) d1_10
 have d2_11:=k2 ⟨0,11,0,0⟩ _ (fun e=>by cases e) d1_11
 clear k2
 simp[c2_t]
 refine az t_1 t_2 t_3 t_4 t_5 t_6 t_7 t_8 t_9 ([]:List Int) ?_ ?_ (by simp) (fun v3 J3 F3 k3=>?_)
 ·exact F2
 ·exact(.inl ⟨rfl,rfl⟩)
 have c3_v:=k3 ⟨0,35,0,0⟩ _ (fun e=>by cases e) c2_v
 have d3_4:=k3 ⟨0,4,0,0⟩ _ (fun e=>by cases e) d2_4
 have d3_5:=k3 ⟨0,5,0,0⟩ _ (fun e=>by cases e) d2_5
 have d3_6:=k3 ⟨0,6,0,0⟩ _ (fun e=>by cases e) d2_6
 have d3_9:=k3 ⟨0,9,0,0⟩ _ (fun e=>by cases e) d2_9
 have d3_10:=k3 ⟨0,10,0,0⟩ _ (fun e=>by cases e) d2_10
 have d3_11:=k3 ⟨0,11,0,0⟩ _ (fun e=>by cases e) d2_11
 clear k3
 simp[c3_v]
 refine az a_1 a_2 a_3 a_4 a_5 a_6 a_7 a_8 a_9 ([]:List Int) ?_ ?_ (by simp) (fun v4 J4 F4 k4=>?_)
 ·exact F3
 ·exact(.inl ⟨rfl,rfl⟩)
 have d4_4:=k4 ⟨0,4,0,0⟩ _ (fun e=>by cases e) d3_4
 have d4_5:=k4 ⟨0,5,0,0⟩ _ (fun e=>by cases e) d3_5
 have d4_6:=k4 ⟨0,6,0,0⟩ _ (fun e=>by cases e) d3_6
 have d4_9:=k4 ⟨0,9,0,0⟩ _ (fun e=>by cases e) d3_9
 have d4_10:=k4 ⟨0,10,0,0⟩ _ (fun e=>by cases e) d3_10
 have d4_11:=k4 ⟨0,11,0,0⟩ _ (fun e=>by cases e) d3_11
 clear k4
 simp[d4_4,d4_5,d4_6,d4_9,d4_10,d4_11,hx.r,hy.r,hz.r,h30',h30'',h34]
set_option maxHeartbeats 4000000 in
theorem rC(a_1:UInt8)(a_2:UInt32)(a_3:UInt8)(a_4:Int)(a_5:Int)(a_6:UInt8)(a_7:UInt32)(a_8:UInt8)(a_9:Int)(b_1:UInt8)(b_2:UInt32)(b_3:UInt8)(b_4:Int)(b_5:Int)(b_6:UInt8)(b_7:UInt32)(b_8:UInt8)(b_9:Int)(o_1:UInt8)(o_2:UInt8)(o_3:UInt32)(o_4:UInt8)(o_5:Int)(o_6:UInt8)(o_7:UInt32)(o_8:UInt8)(o_9:Int)(o_10:Int)(o_11:UInt8)(o_12:UInt32)(o_13:UInt8)(o_14:Int)(o_15:UInt8)(o_16:UInt32)(c_1:UInt8)(c_2:UInt32)(c_3:UInt8)(c_4:Int)(c_5:Int)(c_6:UInt8)(c_7:UInt32)(c_8:UInt8)(c_9:Int)(p_1:UInt8)(p_2:UInt32)(p_3:UInt8)(p_4:Int)(p_5:Int)(p_6:UInt8)(p_7:UInt32)(p_8:UInt8)(p_9:Int)(u_1:UInt8)(u_2:UInt32)(u_3:UInt8)(u_4:Int)(u_5:Int)(u_6:UInt8)(u_7:UInt32)(u_8:UInt8)(u_9:Int)(t_1:UInt8)(t_2:UInt32)(t_3:UInt8)(t_4:Int)(t_5:Int)(t_6:UInt8)(t_7:UInt32)(t_8:UInt8)(t_9:Int)(i_1:UInt8)(i_2:UInt32)(i_3:UInt8)(i_4:Int)(j_1:UInt8)(j_2:UInt32)(j_3:UInt8)(j_4:Int)(n k e1 e2 e3 e4 e5:Int)(same:Bool){x0 x1 x2 y1 y2 y3 y4:AV}{q cl:List Int}
 (hx:Sl 1 (rows ([]:List Int)) x0) (hy:Sl 1 (rows ([]:List Int)) x1) (hz:Sl 1 (rows q) x2)
 (nq:rows q≠[]) (gq : ¬(1000:Int)<q.length)
 (ncl:rows cl≠[]) (bcl:cl.length<100000)
 (hT1:limf env 24 [.agg [a8 a_1,a32 a_2,a8 a_3,aI a_4,aI a_5,a8 a_6,a32 a_7,a8 a_8,aI a_9,x0]]=some (.agg [a8 a_1,a32 a_2,a8 a_3,aI a_4,aI a_5,a8 a_6,a32 a_7,a8 a_8,aI a_9,aNil])) (hT2:limf env 24 [.agg [a8 b_1,a32 b_2,a8 b_3,aI b_4,aI b_5,a8 b_6,a32 b_7,a8 b_8,aI b_9,x1]]=some (.agg [a8 b_1,a32 b_2,a8 b_3,aI b_4,aI b_5,a8 b_6,a32 b_7,a8 b_8,aI b_9,aNil])) (hT3:limf env 25 [.agg [a8 o_1,a8 o_2,a32 o_3,a8 o_4,aI o_5,a8 o_6,a32 o_7,a8 o_8,aI o_9,aI o_10,a8 o_11,a32 o_12,a8 o_13,aI o_14,a8 o_15,a32 o_16,x2]]=some (.agg [a8 o_1,a8 o_2,a32 o_3,a8 o_4,aI o_5,a8 o_6,a32 o_7,a8 o_8,aI o_9,aI o_10,a8 o_11,a32 o_12,a8 o_13,aI o_14,a8 o_15,a32 o_16,(.isl 1 (rows q) none)]))
 (h23:limf env 23 [.agg [a8 o_1,a8 o_2,a32 o_3,a8 o_4,aI o_5,a8 o_6,a32 o_7,a8 o_8,aI o_9,aI o_10,a8 o_11,a32 o_12,a8 o_13,aI o_14,a8 o_15,a32 o_16,(.isl 1 (rows q) none)]]=some (.tup [.agg [a8 c_1,a32 c_2,a8 c_3,aI c_4,aI c_5,a8 c_6,a32 c_7,a8 c_8,aI c_9,(.fsl 1 (rows cl) none)],aI e1])) (h26:limf env 26 [.agg [a8 o_1,a8 o_2,a32 o_3,a8 o_4,aI o_5,a8 o_6,a32 o_7,a8 o_8,aI o_9,aI o_10,a8 o_11,a32 o_12,a8 o_13,aI o_14,a8 o_15,a32 o_16,x2]]=some (.tup [.agg [a8 c_1,a32 c_2,a8 c_3,aI c_4,aI c_5,a8 c_6,a32 c_7,a8 c_8,aI c_9,y1],aI e1])) (s1:Sl 1 (rows cl) y1)
 (h17:limf env 17 [.agg [a8 a_1,a32 a_2,a8 a_3,aI a_4,aI a_5,a8 a_6,a32 a_7,a8 a_8,aI a_9,aNil],aI n]=some (.tup [.agg [a8 p_1,a32 p_2,a8 p_3,aI p_4,aI p_5,a8 p_6,a32 p_7,a8 p_8,aI p_9,aNil],.agg [a8 u_1,a32 u_2,a8 u_3,aI u_4,aI u_5,a8 u_6,a32 u_7,a8 u_8,aI u_9,aNil],aI e2])) (h27:limf env 27 [.agg [a8 a_1,a32 a_2,a8 a_3,aI a_4,aI a_5,a8 a_6,a32 a_7,a8 a_8,aI a_9,x0],aI n]=some (.tup [.agg [a8 p_1,a32 p_2,a8 p_3,aI p_4,aI p_5,a8 p_6,a32 p_7,a8 p_8,aI p_9,y2],.agg [a8 u_1,a32 u_2,a8 u_3,aI u_4,aI u_5,a8 u_6,a32 u_7,a8 u_8,aI u_9,y3],aI e2])) (s2:Sl 1 (rows ([]:List Int)) y2) (s3:Sl 1 (rows ([]:List Int)) y3)
 (h16:limf env 16 [.agg [a8 a_1,a32 a_2,a8 a_3,aI a_4,aI a_5,a8 a_6,a32 a_7,a8 a_8,aI a_9,aNil],.agg [a8 b_1,a32 b_2,a8 b_3,aI b_4,aI b_5,a8 b_6,a32 b_7,a8 b_8,aI b_9,aNil]]=some (.tup [.agg [a8 t_1,a32 t_2,a8 t_3,aI t_4,aI t_5,a8 t_6,a32 t_7,a8 t_8,aI t_9,aNil],aI e3])) (h28:limf env 28 [.agg [a8 a_1,a32 a_2,a8 a_3,aI a_4,aI a_5,a8 a_6,a32 a_7,a8 a_8,aI a_9,x0],.agg [a8 b_1,a32 b_2,a8 b_3,aI b_4,aI b_5,a8 b_6,a32 b_7,a8 b_8,aI b_9,x1]]=some (.tup [.agg [a8 t_1,a32 t_2,a8 t_3,aI t_4,aI t_5,a8 t_6,a32 t_7,a8 t_8,aI t_9,y4],aI e3])) (s4:Sl 1 (rows ([]:List Int)) y4)
 (h20:limf env 20 [.agg [a8 a_1,a32 a_2,a8 a_3,aI a_4,aI a_5,a8 a_6,a32 a_7,a8 a_8,aI a_9,aNil],aI n]=some (.tup [.agg [a8 i_1,a32 i_2,a8 i_3,aI i_4],.agg [a8 j_1,a32 j_2,a8 j_3,aI j_4],.v (.int .i32 k),aI e4])) (h29:limf env 29 [.agg [a8 a_1,a32 a_2,a8 a_3,aI a_4,aI a_5,a8 a_6,a32 a_7,a8 a_8,aI a_9,x0],aI n]=some (.tup [.agg [a8 i_1,a32 i_2,a8 i_3,aI i_4],.agg [a8 j_1,a32 j_2,a8 j_3,aI j_4],.v (.int .i32 k),aI e4]))
 (h31:limf env 31 [.agg [a8 a_1,a32 a_2,a8 a_3,aI a_4,aI a_5,a8 a_6,a32 a_7,a8 a_8,aI a_9,aNil]]=some (.agg [a8 a_1,a32 a_2,a8 a_3,aI a_4,aI a_5,a8 a_6,a32 a_7,a8 a_8,aI a_9,aNil]))
 (hS1:limf env 30 [.agg [a8 c_1,a32 c_2,a8 c_3,aI c_4,aI c_5,a8 c_6,a32 c_7,a8 c_8,aI c_9,(.isl 1 (rows cl) none)],.agg [a8 c_1,a32 c_2,a8 c_3,aI c_4,aI c_5,a8 c_6,a32 c_7,a8 c_8,aI c_9,y1]]=some (aB true)) (hS2:limf env 30 [.agg [a8 p_1,a32 p_2,a8 p_3,aI p_4,aI p_5,a8 p_6,a32 p_7,a8 p_8,aI p_9,aNil],.agg [a8 p_1,a32 p_2,a8 p_3,aI p_4,aI p_5,a8 p_6,a32 p_7,a8 p_8,aI p_9,y2]]=some (aB true)) (hS3:limf env 30 [.agg [a8 u_1,a32 u_2,a8 u_3,aI u_4,aI u_5,a8 u_6,a32 u_7,a8 u_8,aI u_9,aNil],.agg [a8 u_1,a32 u_2,a8 u_3,aI u_4,aI u_5,a8 u_6,a32 u_7,a8 u_8,aI u_9,y3]]=some (aB true)) (hS4:limf env 30 [.agg [a8 t_1,a32 t_2,a8 t_3,aI t_4,aI t_5,a8 t_6,a32 t_7,a8 t_8,aI t_9,aNil],.agg [a8 t_1,a32 t_2,a8 t_3,aI t_4,aI t_5,a8 t_6,a32 t_7,a8 t_8,aI t_9,y4]]=some (aB true))
 (h19:limf env 19 [.agg [a8 a_1,a32 a_2,a8 a_3,aI a_4,aI a_5,a8 a_6,a32 a_7,a8 a_8,aI a_9,aNil]]=some (aI e5)) (h32:limf env 32 [.agg [a8 a_1,a32 a_2,a8 a_3,aI a_4,aI a_5,a8 a_6,a32 a_7,a8 a_8,aI a_9,x0]]=some (aI e5)) (h18:limf env 18 [.agg [a8 a_1,a32 a_2,a8 a_3,aI a_4,aI a_5,a8 a_6,a32 a_7,a8 a_8,aI a_9,aNil],.agg [a8 b_1,a32 b_2,a8 b_3,aI b_4,aI b_5,a8 b_6,a32 b_7,a8 b_8,aI b_9,aNil]]=some (aB same)) (h30:limf env 30 [.agg [a8 a_1,a32 a_2,a8 a_3,aI a_4,aI a_5,a8 a_6,a32 a_7,a8 a_8,aI a_9,x0],.agg [a8 b_1,a32 b_2,a8 b_3,aI b_4,aI b_5,a8 b_6,a32 b_7,a8 b_8,aI b_9,x1]]=some (aB same)) (h18':limf env 18 [.agg [a8 a_1,a32 a_2,a8 a_3,aI a_4,aI a_5,a8 a_6,a32 a_7,a8 a_8,aI a_9,aNil],.agg [a8 a_1,a32 a_2,a8 a_3,aI a_4,aI a_5,a8 a_6,a32 a_7,a8 a_8,aI a_9,x0]]=some (aB true)) (h30':limf env 30 [.agg [a8 a_1,a32 a_2,a8 a_3,aI a_4,aI a_5,a8 a_6,a32 a_7,a8 a_8,aI a_9,aNil],.agg [a8 a_1,a32 a_2,a8 a_3,aI a_4,aI a_5,a8 a_6,a32 a_7,a8 a_8,aI a_9,x0]]=some (aB true)) (h30'':limf env 30 [.agg [a8 b_1,a32 b_2,a8 b_3,aI b_4,aI b_5,a8 b_6,a32 b_7,a8 b_8,aI b_9,aNil],.agg [a8 b_1,a32 b_2,a8 b_3,aI b_4,aI b_5,a8 b_6,a32 b_7,a8 b_8,aI b_9,x1]]=some (aB true)) (h34:limf env 34 [.agg [a8 o_1,a8 o_2,a32 o_3,a8 o_4,aI o_5,a8 o_6,a32 o_7,a8 o_8,aI o_9,aI o_10,a8 o_11,a32 o_12,a8 o_13,aI o_14,a8 o_15,a32 o_16,(.isl 1 (rows q) none)],.agg [a8 o_1,a8 o_2,a32 o_3,a8 o_4,aI o_5,a8 o_6,a32 o_7,a8 o_8,aI o_9,aI o_10,a8 o_11,a32 o_12,a8 o_13,aI o_14,a8 o_15,a32 o_16,x2]]=some (aB true)) :
 limf env 6 [.agg [a8 a_1,a32 a_2,a8 a_3,aI a_4,aI a_5,a8 a_6,a32 a_7,a8 a_8,aI a_9,x0],.agg [a8 b_1,a32 b_2,a8 b_3,aI b_4,aI b_5,a8 b_6,a32 b_7,a8 b_8,aI b_9,x1],.agg [a8 o_1,a8 o_2,a32 o_3,a8 o_4,aI o_5,a8 o_6,a32 o_7,a8 o_8,aI o_9,aI o_10,a8 o_11,a32 o_12,a8 o_13,aI o_14,a8 o_15,a32 o_16,x2],aI n]=some (aB true):=by
 have hF1:=fun H r=>aG (H:=H) (f:=24) (by kernel_rfl) false 0 r (args:=[.agg [a8 a_1,a32 a_2,a8 a_3,aI a_4,aI a_5,a8 a_6,a32 a_7,a8 a_8,aI a_9,x0]]) (by simp[hx.r]) (by simp[hx.r]) hT1
 have hF2:=fun H r=>aG (H:=H) (f:=24) (by kernel_rfl) false 0 r (args:=[.agg [a8 b_1,a32 b_2,a8 b_3,aI b_4,aI b_5,a8 b_6,a32 b_7,a8 b_8,aI b_9,x1]]) (by simp[hy.r]) (by simp[hy.r]) hT2
 have fcl:=aF cl
 clear hT1 hT2
 refine aC (fn:=Try.f6) (c:=ai) rfl (by kernel_rfl) (by kernel_rfl) (by kernel_rfl) (by kernel_rfl) ?_;refine aq _ _ _ _ _ _ fun g=>?_
 simp[ar,au,ae,af,ab, *,aj,hx.r,hy.r,hz.r,s1.r,s2.r,s3.r,s4.r,frzB,eqA,eqFs]
 refine az c_1 c_2 c_3 c_4 c_5 c_6 c_7 c_8 c_9 cl ?_ ?_ bcl (fun v0 J0 F0 k0=>?_)
 ·exact bz rfl
 ·exact(.inr ⟨⟨0,61,0,0⟩,none,by simp,rfl⟩)
 have c0_p:=k0 ⟨0,16,0,0⟩ _ (fun e=>by cases e) rfl
 have c0_u:=k0 ⟨0,17,0,0⟩ _ (fun e=>by cases e) rfl
 have c0_t:=k0 ⟨0,22,0,0⟩ _ (fun e=>by cases e) rfl
 have c0_v:=k0 ⟨0,35,0,0⟩ _ (fun e=>by cases e) rfl
 have d0_4:=k0 ⟨0,4,0,0⟩ _ (fun e=>by cases e) rfl
 have d0_5:=k0 ⟨0,5,0,0⟩ _ (fun e=>by cases e) rfl
 have d0_6:=k0 ⟨0,6,0,0⟩ _ (fun e=>by cases e) rfl
 have d0_9:=k0 ⟨0,9,0,0⟩ _ (fun e=>by cases e) rfl
 have d0_10:=k0 ⟨0,10,0,0⟩ _ (fun e=>by cases e) rfl
 have d0_11:=k0 ⟨0,11,0,0⟩ _ (fun e=>by cases e) rfl
 clear k0
 simp[c0_p]
 refine az p_1 p_2 p_3 p_4 p_5 p_6 p_7 p_8 p_9 ([]:List Int) ?_ ?_ (by simp) (fun v1 J1 F1 k1=>?_)
 ·exact F0
 ·exact(.inl ⟨rfl,rfl⟩)
 have c1_u:=k1 ⟨0,17,0,0⟩ _ (fun e=>by cases e) c0_u
 have c1_t:=k1 ⟨0,22,0,0⟩ _ (fun e=>by cases e) c0_t
 have c1_v:=k1 ⟨0,35,0,0⟩ _ (fun e=>by cases e) c0_v
 have d1_4:=k1 ⟨0,4,0,0⟩ _ (fun e=>by cases e) d0_4
 have d1_5:=k1 ⟨0,5,0,0⟩ _ (fun e=>by cases e) d0_5
 have d1_6:=k1 ⟨0,6,0,0⟩ _ (fun e=>by cases e) d0_6
 have d1_9:=k1 ⟨0,9,0,0⟩ _ (fun e=>by cases e) d0_9
 have d1_10:=k1 ⟨0,10,0,0⟩ _ (fun e=>by cases e) d0_10
 have d1_11:=k1 ⟨0,11,0,0⟩ _ (fun e=>by cases e) d0_11
 clear k1
 simp[c1_u]
 refine az u_1 u_2 u_3 u_4 u_5 u_6 u_7 u_8 u_9 ([]:List Int) ?_ ?_ (by simp) (fun v2 J2 F2 k2=>?_)
 ·exact F1
 ·exact(.inl ⟨rfl,rfl⟩)
 have c2_t:=k2 ⟨0,22,0,0⟩ _ (fun e=>by cases e) c1_t
 have c2_v:=k2 ⟨0,35,0,0⟩ _ (fun e=>by cases e) c1_v
 have d2_4:=k2 ⟨0,4,0,0⟩ _ (fun e=>by cases e) d1_4
 have d2_5:=k2 ⟨0,5,0,0⟩ _ (fun e=>by cases e) d1_5
 have d2_6:=k2 ⟨0,6,0,0⟩ _ (fun e=>by cases e) d1_6
 have d2_9:=k2 ⟨0,9,0,0⟩ _ (fun e=>by cases e) d1_9
 have d2_10:=k2 ⟨0,10,0,0⟩ _ (fun e=>by cases e) d1_10
 have d2_11:=k2 ⟨0,11,0,0⟩ _ (fun e=>by cases e) d1_11
 clear k2
 simp[c2_t]
 refine az t_1 t_2 t_3 t_4 t_5 t_6 t_7 t_8 t_9 ([]:List Int) ?_ ?_ (by simp) (fun v3 J3 F3 k3=>?_)
 ·exact F2
 ·exact(.inl ⟨rfl,rfl⟩)
 have c3_v:=k3 ⟨0,35,0,0⟩ _ (fun e=>by cases e) c2_v
 have d3_4:=k3 ⟨0,4,0,0⟩ _ (fun e=>by cases e) d2_4
 have d3_5:=k3 ⟨0,5,0,0⟩ _ (fun e=>by cases e) d2_5
 have d3_6:=k3 ⟨0,6,0,0⟩ _ (fun e=>by cases e) d2_6
 have d3_9:=k3 ⟨0,9,0,0⟩ _ (fun e=>by cases e) d2_9
 have d3_10:=k3 ⟨0,10,0,0⟩ _ (fun e=>by cases e) d2_10
 have d3_11:=k3 ⟨0,11,0,0⟩ _ (fun e=>by cases e) d2_11
 clear k3
 simp[c3_v]
 refine az a_1 a_2 a_3 a_4 a_5 a_6 a_7 a_8 a_9 ([]:List Int) ?_ ?_ (by simp) (fun v4 J4 F4 k4=>?_)
 ·exact F3
 ·exact(.inl ⟨rfl,rfl⟩)
 have d4_4:=k4 ⟨0,4,0,0⟩ _ (fun e=>by cases e) d3_4
 have d4_5:=k4 ⟨0,5,0,0⟩ _ (fun e=>by cases e) d3_5
 have d4_6:=k4 ⟨0,6,0,0⟩ _ (fun e=>by cases e) d3_6
 have d4_9:=k4 ⟨0,9,0,0⟩ _ (fun e=>by cases e) d3_9
 have d4_10:=k4 ⟨0,10,0,0⟩ _ (fun e=>by cases e) d3_10
 have d4_11:=k4 ⟨0,11,0,0⟩ _ (fun e=>by cases e) d3_11
 clear k4
 simp[d4_4,d4_5,d4_6,d4_9,d4_10,d4_11,hx.r,hy.r,hz.r,h30',h30'',h34]
set_option maxHeartbeats 4000000 in
theorem rB(a_1:UInt8)(a_2:UInt32)(a_3:UInt8)(a_4:Int)(a_5:Int)(a_6:UInt8)(a_7:UInt32)(a_8:UInt8)(a_9:Int)(b_1:UInt8)(b_2:UInt32)(b_3:UInt8)(b_4:Int)(b_5:Int)(b_6:UInt8)(b_7:UInt32)(b_8:UInt8)(b_9:Int)(o_1:UInt8)(o_2:UInt8)(o_3:UInt32)(o_4:UInt8)(o_5:Int)(o_6:UInt8)(o_7:UInt32)(o_8:UInt8)(o_9:Int)(o_10:Int)(o_11:UInt8)(o_12:UInt32)(o_13:UInt8)(o_14:Int)(o_15:UInt8)(o_16:UInt32)(c_1:UInt8)(c_2:UInt32)(c_3:UInt8)(c_4:Int)(c_5:Int)(c_6:UInt8)(c_7:UInt32)(c_8:UInt8)(c_9:Int)(p_1:UInt8)(p_2:UInt32)(p_3:UInt8)(p_4:Int)(p_5:Int)(p_6:UInt8)(p_7:UInt32)(p_8:UInt8)(p_9:Int)(u_1:UInt8)(u_2:UInt32)(u_3:UInt8)(u_4:Int)(u_5:Int)(u_6:UInt8)(u_7:UInt32)(u_8:UInt8)(u_9:Int)(t_1:UInt8)(t_2:UInt32)(t_3:UInt8)(t_4:Int)(t_5:Int)(t_6:UInt8)(t_7:UInt32)(t_8:UInt8)(t_9:Int)(i_1:UInt8)(i_2:UInt32)(i_3:UInt8)(i_4:Int)(j_1:UInt8)(j_2:UInt32)(j_3:UInt8)(j_4:Int)(n k e1 e2 e3 e4 e5:Int)(same:Bool){x0 x1 x2 y1 y2 y3 y4:AV}{m:List Int}
 (hx:Sl 1 (rows ([]:List Int)) x0) (hy:Sl 1 (rows m) x1) (hz:Sl 1 (rows ([]:List Int)) x2)
 (nm:rows m≠[]) (gm : ¬(1000:Int)<m.length)
 (hT1:limf env 24 [.agg [a8 a_1,a32 a_2,a8 a_3,aI a_4,aI a_5,a8 a_6,a32 a_7,a8 a_8,aI a_9,x0]]=some (.agg [a8 a_1,a32 a_2,a8 a_3,aI a_4,aI a_5,a8 a_6,a32 a_7,a8 a_8,aI a_9,aNil])) (hT2:limf env 24 [.agg [a8 b_1,a32 b_2,a8 b_3,aI b_4,aI b_5,a8 b_6,a32 b_7,a8 b_8,aI b_9,x1]]=some (.agg [a8 b_1,a32 b_2,a8 b_3,aI b_4,aI b_5,a8 b_6,a32 b_7,a8 b_8,aI b_9,(.fsl 1 (rows m) none)])) (hT3:limf env 25 [.agg [a8 o_1,a8 o_2,a32 o_3,a8 o_4,aI o_5,a8 o_6,a32 o_7,a8 o_8,aI o_9,aI o_10,a8 o_11,a32 o_12,a8 o_13,aI o_14,a8 o_15,a32 o_16,x2]]=some (.agg [a8 o_1,a8 o_2,a32 o_3,a8 o_4,aI o_5,a8 o_6,a32 o_7,a8 o_8,aI o_9,aI o_10,a8 o_11,a32 o_12,a8 o_13,aI o_14,a8 o_15,a32 o_16,aNil]))
 (h23:limf env 23 [.agg [a8 o_1,a8 o_2,a32 o_3,a8 o_4,aI o_5,a8 o_6,a32 o_7,a8 o_8,aI o_9,aI o_10,a8 o_11,a32 o_12,a8 o_13,aI o_14,a8 o_15,a32 o_16,aNil]]=some (.tup [.agg [a8 c_1,a32 c_2,a8 c_3,aI c_4,aI c_5,a8 c_6,a32 c_7,a8 c_8,aI c_9,aNil],aI e1])) (h26:limf env 26 [.agg [a8 o_1,a8 o_2,a32 o_3,a8 o_4,aI o_5,a8 o_6,a32 o_7,a8 o_8,aI o_9,aI o_10,a8 o_11,a32 o_12,a8 o_13,aI o_14,a8 o_15,a32 o_16,x2]]=some (.tup [.agg [a8 c_1,a32 c_2,a8 c_3,aI c_4,aI c_5,a8 c_6,a32 c_7,a8 c_8,aI c_9,y1],aI e1])) (s1:Sl 1 (rows ([]:List Int)) y1)
 (h17:limf env 17 [.agg [a8 a_1,a32 a_2,a8 a_3,aI a_4,aI a_5,a8 a_6,a32 a_7,a8 a_8,aI a_9,aNil],aI n]=some (.tup [.agg [a8 p_1,a32 p_2,a8 p_3,aI p_4,aI p_5,a8 p_6,a32 p_7,a8 p_8,aI p_9,aNil],.agg [a8 u_1,a32 u_2,a8 u_3,aI u_4,aI u_5,a8 u_6,a32 u_7,a8 u_8,aI u_9,aNil],aI e2])) (h27:limf env 27 [.agg [a8 a_1,a32 a_2,a8 a_3,aI a_4,aI a_5,a8 a_6,a32 a_7,a8 a_8,aI a_9,x0],aI n]=some (.tup [.agg [a8 p_1,a32 p_2,a8 p_3,aI p_4,aI p_5,a8 p_6,a32 p_7,a8 p_8,aI p_9,y2],.agg [a8 u_1,a32 u_2,a8 u_3,aI u_4,aI u_5,a8 u_6,a32 u_7,a8 u_8,aI u_9,y3],aI e2])) (s2:Sl 1 (rows ([]:List Int)) y2) (s3:Sl 1 (rows ([]:List Int)) y3)
 (h16:limf env 16 [.agg [a8 a_1,a32 a_2,a8 a_3,aI a_4,aI a_5,a8 a_6,a32 a_7,a8 a_8,aI a_9,aNil],.agg [a8 b_1,a32 b_2,a8 b_3,aI b_4,aI b_5,a8 b_6,a32 b_7,a8 b_8,aI b_9,(.isl 1 (rows m) none)]]=some (.tup [.agg [a8 t_1,a32 t_2,a8 t_3,aI t_4,aI t_5,a8 t_6,a32 t_7,a8 t_8,aI t_9,aNil],aI e3])) (h28:limf env 28 [.agg [a8 a_1,a32 a_2,a8 a_3,aI a_4,aI a_5,a8 a_6,a32 a_7,a8 a_8,aI a_9,x0],.agg [a8 b_1,a32 b_2,a8 b_3,aI b_4,aI b_5,a8 b_6,a32 b_7,a8 b_8,aI b_9,x1]]=some (.tup [.agg [a8 t_1,a32 t_2,a8 t_3,aI t_4,aI t_5,a8 t_6,a32 t_7,a8 t_8,aI t_9,y4],aI e3])) (s4:Sl 1 (rows ([]:List Int)) y4)
 (h20:limf env 20 [.agg [a8 a_1,a32 a_2,a8 a_3,aI a_4,aI a_5,a8 a_6,a32 a_7,a8 a_8,aI a_9,aNil],aI n]=some (.tup [.agg [a8 i_1,a32 i_2,a8 i_3,aI i_4],.agg [a8 j_1,a32 j_2,a8 j_3,aI j_4],.v (.int .i32 k),aI e4])) (h29:limf env 29 [.agg [a8 a_1,a32 a_2,a8 a_3,aI a_4,aI a_5,a8 a_6,a32 a_7,a8 a_8,aI a_9,x0],aI n]=some (.tup [.agg [a8 i_1,a32 i_2,a8 i_3,aI i_4],.agg [a8 j_1,a32 j_2,a8 j_3,aI j_4],.v (.int .i32 k),aI e4]))
 (h31:limf env 31 [.agg [a8 a_1,a32 a_2,a8 a_3,aI a_4,aI a_5,a8 a_6,a32 a_7,a8 a_8,aI a_9,aNil]]=some (.agg [a8 a_1,a32 a_2,a8 a_3,aI a_4,aI a_5,a8 a_6,a32 a_7,a8 a_8,aI a_9,aNil]))
 (hS1:limf env 30 [.agg [a8 c_1,a32 c_2,a8 c_3,aI c_4,aI c_5,a8 c_6,a32 c_7,a8 c_8,aI c_9,aNil],.agg [a8 c_1,a32 c_2,a8 c_3,aI c_4,aI c_5,a8 c_6,a32 c_7,a8 c_8,aI c_9,y1]]=some (aB true)) (hS2:limf env 30 [.agg [a8 p_1,a32 p_2,a8 p_3,aI p_4,aI p_5,a8 p_6,a32 p_7,a8 p_8,aI p_9,aNil],.agg [a8 p_1,a32 p_2,a8 p_3,aI p_4,aI p_5,a8 p_6,a32 p_7,a8 p_8,aI p_9,y2]]=some (aB true)) (hS3:limf env 30 [.agg [a8 u_1,a32 u_2,a8 u_3,aI u_4,aI u_5,a8 u_6,a32 u_7,a8 u_8,aI u_9,aNil],.agg [a8 u_1,a32 u_2,a8 u_3,aI u_4,aI u_5,a8 u_6,a32 u_7,a8 u_8,aI u_9,y3]]=some (aB true)) (hS4:limf env 30 [.agg [a8 t_1,a32 t_2,a8 t_3,aI t_4,aI t_5,a8 t_6,a32 t_7,a8 t_8,aI t_9,aNil],.agg [a8 t_1,a32 t_2,a8 t_3,aI t_4,aI t_5,a8 t_6,a32 t_7,a8 t_8,aI t_9,y4]]=some (aB true))
 (h19:limf env 19 [.agg [a8 a_1,a32 a_2,a8 a_3,aI a_4,aI a_5,a8 a_6,a32 a_7,a8 a_8,aI a_9,aNil]]=some (aI e5)) (h32:limf env 32 [.agg [a8 a_1,a32 a_2,a8 a_3,aI a_4,aI a_5,a8 a_6,a32 a_7,a8 a_8,aI a_9,x0]]=some (aI e5)) (h18:limf env 18 [.agg [a8 a_1,a32 a_2,a8 a_3,aI a_4,aI a_5,a8 a_6,a32 a_7,a8 a_8,aI a_9,aNil],.agg [a8 b_1,a32 b_2,a8 b_3,aI b_4,aI b_5,a8 b_6,a32 b_7,a8 b_8,aI b_9,(.isl 1 (rows m) none)]]=some (aB same)) (h30:limf env 30 [.agg [a8 a_1,a32 a_2,a8 a_3,aI a_4,aI a_5,a8 a_6,a32 a_7,a8 a_8,aI a_9,x0],.agg [a8 b_1,a32 b_2,a8 b_3,aI b_4,aI b_5,a8 b_6,a32 b_7,a8 b_8,aI b_9,x1]]=some (aB same)) (h18':limf env 18 [.agg [a8 a_1,a32 a_2,a8 a_3,aI a_4,aI a_5,a8 a_6,a32 a_7,a8 a_8,aI a_9,aNil],.agg [a8 a_1,a32 a_2,a8 a_3,aI a_4,aI a_5,a8 a_6,a32 a_7,a8 a_8,aI a_9,x0]]=some (aB true)) (h30':limf env 30 [.agg [a8 a_1,a32 a_2,a8 a_3,aI a_4,aI a_5,a8 a_6,a32 a_7,a8 a_8,aI a_9,aNil],.agg [a8 a_1,a32 a_2,a8 a_3,aI a_4,aI a_5,a8 a_6,a32 a_7,a8 a_8,aI a_9,x0]]=some (aB true)) (h30'':limf env 30 [.agg [a8 b_1,a32 b_2,a8 b_3,aI b_4,aI b_5,a8 b_6,a32 b_7,a8 b_8,aI b_9,(.isl 1 (rows m) none)],.agg [a8 b_1,a32 b_2,a8 b_3,aI b_4,aI b_5,a8 b_6,a32 b_7,a8 b_8,aI b_9,x1]]=some (aB true)) (h34:limf env 34 [.agg [a8 o_1,a8 o_2,a32 o_3,a8 o_4,aI o_5,a8 o_6,a32 o_7,a8 o_8,aI o_9,aI o_10,a8 o_11,a32 o_12,a8 o_13,aI o_14,a8 o_15,a32 o_16,aNil],.agg [a8 o_1,a8 o_2,a32 o_3,a8 o_4,aI o_5,a8 o_6,a32 o_7,a8 o_8,aI o_9,aI o_10,a8 o_11,a32 o_12,a8 o_13,aI o_14,a8 o_15,a32 o_16,x2]]=some (aB true)) :
 limf env 6 [.agg [a8 a_1,a32 a_2,a8 a_3,aI a_4,aI a_5,a8 a_6,a32 a_7,a8 a_8,aI a_9,x0],.agg [a8 b_1,a32 b_2,a8 b_3,aI b_4,aI b_5,a8 b_6,a32 b_7,a8 b_8,aI b_9,x1],.agg [a8 o_1,a8 o_2,a32 o_3,a8 o_4,aI o_5,a8 o_6,a32 o_7,a8 o_8,aI o_9,aI o_10,a8 o_11,a32 o_12,a8 o_13,aI o_14,a8 o_15,a32 o_16,x2],aI n]=some (aB true):=by
 have hF1:=fun H r=>aG (H:=H) (f:=24) (by kernel_rfl) false 0 r (args:=[.agg [a8 a_1,a32 a_2,a8 a_3,aI a_4,aI a_5,a8 a_6,a32 a_7,a8 a_8,aI a_9,x0]]) (by simp[hx.r]) (by simp[hx.r]) hT1
 have hF2:=fun H r=>aG (H:=H) (f:=24) (by kernel_rfl) false 0 r (args:=[.agg [a8 b_1,a32 b_2,a8 b_3,aI b_4,aI b_5,a8 b_6,a32 b_7,a8 b_8,aI b_9,x1]]) (by simp[hy.r]) (by simp[hy.r]) hT2
 clear hT1 hT2
 refine aC (fn:=Try.f6) (c:=ai) rfl (by kernel_rfl) (by kernel_rfl) (by kernel_rfl) (by kernel_rfl) ?_;refine aq _ _ _ _ _ _ fun g=>?_
 simp[ar,au,ae,af,ab, *,aj,hx.r,hy.r,hz.r,s1.r,s2.r,s3.r,s4.r,frzB,eqA,eqFs]
 refine az c_1 c_2 c_3 c_4 c_5 c_6 c_7 c_8 c_9 ([]:List Int) ?_ ?_ (by simp) (fun v0 J0 F0 k0=>?_)
 ·exact bz rfl
 ·exact(.inl ⟨rfl,rfl⟩)
 have c0_p:=k0 ⟨0,16,0,0⟩ _ (fun e=>by cases e) rfl
 have c0_u:=k0 ⟨0,17,0,0⟩ _ (fun e=>by cases e) rfl
 have c0_t:=k0 ⟨0,22,0,0⟩ _ (fun e=>by cases e) rfl
 have c0_v:=k0 ⟨0,35,0,0⟩ _ (fun e=>by cases e) rfl
 have d0_4:=k0 ⟨0,4,0,0⟩ _ (fun e=>by cases e) rfl
 have d0_5:=k0 ⟨0,5,0,0⟩ _ (fun e=>by cases e) rfl
 have d0_6:=k0 ⟨0,6,0,0⟩ _ (fun e=>by cases e) rfl
 have d0_9:=k0 ⟨0,9,0,0⟩ _ (fun e=>by cases e) rfl
 have d0_10:=k0 ⟨0,10,0,0⟩ _ (fun e=>by cases e) rfl
 have d0_11:=k0 ⟨0,11,0,0⟩ _ (fun e=>by cases e) rfl
 have w0_y:=k0 ⟨0,56,0,0⟩ _ (fun e=>by cases e) rfl
 clear k0
 simp[c0_p]
 refine az p_1 p_2 p_3 p_4 p_5 p_6 p_7 p_8 p_9 ([]:List Int) ?_ ?_ (by simp) (fun v1 J1 F1 k1=>?_)
 ·exact F0
 ·exact(.inl ⟨rfl,rfl⟩)
 have c1_u:=k1 ⟨0,17,0,0⟩ _ (fun e=>by cases e) c0_u
 have c1_t:=k1 ⟨0,22,0,0⟩ _ (fun e=>by cases e) c0_t
 have c1_v:=k1 ⟨0,35,0,0⟩ _ (fun e=>by cases e) c0_v
 have d1_4:=k1 ⟨0,4,0,0⟩ _ (fun e=>by cases e) d0_4
 have d1_5:=k1 ⟨0,5,0,0⟩ _ (fun e=>by cases e) d0_5
 have d1_6:=k1 ⟨0,6,0,0⟩ _ (fun e=>by cases e) d0_6
 have d1_9:=k1 ⟨0,9,0,0⟩ _ (fun e=>by cases e) d0_9
 have d1_10:=k1 ⟨0,10,0,0⟩ _ (fun e=>by cases e) d0_10
 have d1_11:=k1 ⟨0,11,0,0⟩ _ (fun e=>by cases e) d0_11
 have w1_y:=k1 ⟨0,56,0,0⟩ _ (fun e=>by cases e) w0_y
 clear k1
 simp[c1_u]
 refine az u_1 u_2 u_3 u_4 u_5 u_6 u_7 u_8 u_9 ([]:List Int) ?_ ?_ (by simp) (fun v2 J2 F2 k2=>?_)
 ·exact F1
 ·exact(.inl ⟨rfl,rfl⟩)
 have c2_t:=k2 ⟨0,22,0,0⟩ _ (fun e=>by cases e) c1_t
 have c2_v:=k2 ⟨0,35,0,0⟩ _ (fun e=>by cases e) c1_v
 have d2_4:=k2 ⟨0,4,0,0⟩ _ (fun e=>by cases e) d1_4
 have d2_5:=k2 ⟨0,5,0,0⟩ _ (fun e=>by cases e) d1_5
 have d2_6:=k2 ⟨0,6,0,0⟩ _ (fun e=>by cases e) d1_6
 have d2_9:=k2 ⟨0,9,0,0⟩ _ (fun e=>by cases e) d1_9
 have d2_10:=k2 ⟨0,10,0,0⟩ _ (fun e=>by cases e) d1_10
 have d2_11:=k2 ⟨0,11,0,0⟩ _ (fun e=>by cases e) d1_11
 have w2_y:=k2 ⟨0,56,0,0⟩ _ (fun e=>by cases e) w1_y
 clear k2
 simp[c2_t]
 refine az t_1 t_2 t_3 t_4 t_5 t_6 t_7 t_8 t_9 ([]:List Int) ?_ ?_ (by simp) (fun v3 J3 F3 k3=>?_)
 ·exact F2
 ·exact(.inl ⟨rfl,rfl⟩)
 have c3_v:=k3 ⟨0,35,0,0⟩ _ (fun e=>by cases e) c2_v
 have d3_4:=k3 ⟨0,4,0,0⟩ _ (fun e=>by cases e) d2_4
 have d3_5:=k3 ⟨0,5,0,0⟩ _ (fun e=>by cases e) d2_5
 have d3_6:=k3 ⟨0,6,0,0⟩ _ (fun e=>by cases e) d2_6
 have d3_9:=k3 ⟨0,9,0,0⟩ _ (fun e=>by cases e) d2_9
 have d3_10:=k3 ⟨0,10,0,0⟩ _ (fun e=>by cases e) d2_10
 have d3_11:=k3 ⟨0,11,0,0⟩ _ (fun e=>by cases e) d2_11
 have w3_y:=k3 ⟨0,56,0,0⟩ _ (fun e=>by cases e) w2_y
 clear k3
 simp[c3_v]
 refine az a_1 a_2 a_3 a_4 a_5 a_6 a_7 a_8 a_9 ([]:List Int) ?_ ?_ (by simp) (fun v4 J4 F4 k4=>?_)
 ·exact F3
 ·exact(.inl ⟨rfl,rfl⟩)
 have d4_4:=k4 ⟨0,4,0,0⟩ _ (fun e=>by cases e) d3_4
 have d4_5:=k4 ⟨0,5,0,0⟩ _ (fun e=>by cases e) d3_5
 have d4_6:=k4 ⟨0,6,0,0⟩ _ (fun e=>by cases e) d3_6
 have d4_9:=k4 ⟨0,9,0,0⟩ _ (fun e=>by cases e) d3_9
 have d4_10:=k4 ⟨0,10,0,0⟩ _ (fun e=>by cases e) d3_10
 have d4_11:=k4 ⟨0,11,0,0⟩ _ (fun e=>by cases e) d3_11
 have w4_y:=k4 ⟨0,56,0,0⟩ _ (fun e=>by cases e) w3_y
 clear k4
 simp[d4_4,d4_5,d4_6,d4_9,d4_10,d4_11,w4_y,hx.r,hy.r,hz.r,h30',h30'',h34]
set_option maxHeartbeats 4000000 in
theorem rA(a_1:UInt8)(a_2:UInt32)(a_3:UInt8)(a_4:Int)(a_5:Int)(a_6:UInt8)(a_7:UInt32)(a_8:UInt8)(a_9:Int)(b_1:UInt8)(b_2:UInt32)(b_3:UInt8)(b_4:Int)(b_5:Int)(b_6:UInt8)(b_7:UInt32)(b_8:UInt8)(b_9:Int)(o_1:UInt8)(o_2:UInt8)(o_3:UInt32)(o_4:UInt8)(o_5:Int)(o_6:UInt8)(o_7:UInt32)(o_8:UInt8)(o_9:Int)(o_10:Int)(o_11:UInt8)(o_12:UInt32)(o_13:UInt8)(o_14:Int)(o_15:UInt8)(o_16:UInt32)(c_1:UInt8)(c_2:UInt32)(c_3:UInt8)(c_4:Int)(c_5:Int)(c_6:UInt8)(c_7:UInt32)(c_8:UInt8)(c_9:Int)(p_1:UInt8)(p_2:UInt32)(p_3:UInt8)(p_4:Int)(p_5:Int)(p_6:UInt8)(p_7:UInt32)(p_8:UInt8)(p_9:Int)(u_1:UInt8)(u_2:UInt32)(u_3:UInt8)(u_4:Int)(u_5:Int)(u_6:UInt8)(u_7:UInt32)(u_8:UInt8)(u_9:Int)(t_1:UInt8)(t_2:UInt32)(t_3:UInt8)(t_4:Int)(t_5:Int)(t_6:UInt8)(t_7:UInt32)(t_8:UInt8)(t_9:Int)(i_1:UInt8)(i_2:UInt32)(i_3:UInt8)(i_4:Int)(j_1:UInt8)(j_2:UInt32)(j_3:UInt8)(j_4:Int)(n k e1 e2 e3 e4 e5:Int)(same:Bool){x0 x1 x2 y1 y2 y3 y4:AV}{m q:List Int}
 (hx:Sl 1 (rows ([]:List Int)) x0) (hy:Sl 1 (rows m) x1) (hz:Sl 1 (rows q) x2)
 (nm:rows m≠[]) (gm : ¬(1000:Int)<m.length)
 (nq:rows q≠[]) (gq : ¬(1000:Int)<q.length)
 (hT1:limf env 24 [.agg [a8 a_1,a32 a_2,a8 a_3,aI a_4,aI a_5,a8 a_6,a32 a_7,a8 a_8,aI a_9,x0]]=some (.agg [a8 a_1,a32 a_2,a8 a_3,aI a_4,aI a_5,a8 a_6,a32 a_7,a8 a_8,aI a_9,aNil])) (hT2:limf env 24 [.agg [a8 b_1,a32 b_2,a8 b_3,aI b_4,aI b_5,a8 b_6,a32 b_7,a8 b_8,aI b_9,x1]]=some (.agg [a8 b_1,a32 b_2,a8 b_3,aI b_4,aI b_5,a8 b_6,a32 b_7,a8 b_8,aI b_9,(.fsl 1 (rows m) none)])) (hT3:limf env 25 [.agg [a8 o_1,a8 o_2,a32 o_3,a8 o_4,aI o_5,a8 o_6,a32 o_7,a8 o_8,aI o_9,aI o_10,a8 o_11,a32 o_12,a8 o_13,aI o_14,a8 o_15,a32 o_16,x2]]=some (.agg [a8 o_1,a8 o_2,a32 o_3,a8 o_4,aI o_5,a8 o_6,a32 o_7,a8 o_8,aI o_9,aI o_10,a8 o_11,a32 o_12,a8 o_13,aI o_14,a8 o_15,a32 o_16,(.isl 1 (rows q) none)]))
 (h23:limf env 23 [.agg [a8 o_1,a8 o_2,a32 o_3,a8 o_4,aI o_5,a8 o_6,a32 o_7,a8 o_8,aI o_9,aI o_10,a8 o_11,a32 o_12,a8 o_13,aI o_14,a8 o_15,a32 o_16,(.isl 1 (rows q) none)]]=some (.tup [.agg [a8 c_1,a32 c_2,a8 c_3,aI c_4,aI c_5,a8 c_6,a32 c_7,a8 c_8,aI c_9,aNil],aI e1])) (h26:limf env 26 [.agg [a8 o_1,a8 o_2,a32 o_3,a8 o_4,aI o_5,a8 o_6,a32 o_7,a8 o_8,aI o_9,aI o_10,a8 o_11,a32 o_12,a8 o_13,aI o_14,a8 o_15,a32 o_16,x2]]=some (.tup [.agg [a8 c_1,a32 c_2,a8 c_3,aI c_4,aI c_5,a8 c_6,a32 c_7,a8 c_8,aI c_9,y1],aI e1])) (s1:Sl 1 (rows ([]:List Int)) y1)
 (h17:limf env 17 [.agg [a8 a_1,a32 a_2,a8 a_3,aI a_4,aI a_5,a8 a_6,a32 a_7,a8 a_8,aI a_9,aNil],aI n]=some (.tup [.agg [a8 p_1,a32 p_2,a8 p_3,aI p_4,aI p_5,a8 p_6,a32 p_7,a8 p_8,aI p_9,aNil],.agg [a8 u_1,a32 u_2,a8 u_3,aI u_4,aI u_5,a8 u_6,a32 u_7,a8 u_8,aI u_9,aNil],aI e2])) (h27:limf env 27 [.agg [a8 a_1,a32 a_2,a8 a_3,aI a_4,aI a_5,a8 a_6,a32 a_7,a8 a_8,aI a_9,x0],aI n]=some (.tup [.agg [a8 p_1,a32 p_2,a8 p_3,aI p_4,aI p_5,a8 p_6,a32 p_7,a8 p_8,aI p_9,y2],.agg [a8 u_1,a32 u_2,a8 u_3,aI u_4,aI u_5,a8 u_6,a32 u_7,a8 u_8,aI u_9,y3],aI e2])) (s2:Sl 1 (rows ([]:List Int)) y2) (s3:Sl 1 (rows ([]:List Int)) y3)
 (h16:limf env 16 [.agg [a8 a_1,a32 a_2,a8 a_3,aI a_4,aI a_5,a8 a_6,a32 a_7,a8 a_8,aI a_9,aNil],.agg [a8 b_1,a32 b_2,a8 b_3,aI b_4,aI b_5,a8 b_6,a32 b_7,a8 b_8,aI b_9,(.isl 1 (rows m) none)]]=some (.tup [.agg [a8 t_1,a32 t_2,a8 t_3,aI t_4,aI t_5,a8 t_6,a32 t_7,a8 t_8,aI t_9,aNil],aI e3])) (h28:limf env 28 [.agg [a8 a_1,a32 a_2,a8 a_3,aI a_4,aI a_5,a8 a_6,a32 a_7,a8 a_8,aI a_9,x0],.agg [a8 b_1,a32 b_2,a8 b_3,aI b_4,aI b_5,a8 b_6,a32 b_7,a8 b_8,aI b_9,x1]]=some (.tup [.agg [a8 t_1,a32 t_2,a8 t_3,aI t_4,aI t_5,a8 t_6,a32 t_7,a8 t_8,aI t_9,y4],aI e3])) (s4:Sl 1 (rows ([]:List Int)) y4)
 (h20:limf env 20 [.agg [a8 a_1,a32 a_2,a8 a_3,aI a_4,aI a_5,a8 a_6,a32 a_7,a8 a_8,aI a_9,aNil],aI n]=some (.tup [.agg [a8 i_1,a32 i_2,a8 i_3,aI i_4],.agg [a8 j_1,a32 j_2,a8 j_3,aI j_4],.v (.int .i32 k),aI e4])) (h29:limf env 29 [.agg [a8 a_1,a32 a_2,a8 a_3,aI a_4,aI a_5,a8 a_6,a32 a_7,a8 a_8,aI a_9,x0],aI n]=some (.tup [.agg [a8 i_1,a32 i_2,a8 i_3,aI i_4],.agg [a8 j_1,a32 j_2,a8 j_3,aI j_4],.v (.int .i32 k),aI e4]))
 (h31:limf env 31 [.agg [a8 a_1,a32 a_2,a8 a_3,aI a_4,aI a_5,a8 a_6,a32 a_7,a8 a_8,aI a_9,aNil]]=some (.agg [a8 a_1,a32 a_2,a8 a_3,aI a_4,aI a_5,a8 a_6,a32 a_7,a8 a_8,aI a_9,aNil]))
 (hS1:limf env 30 [.agg [a8 c_1,a32 c_2,a8 c_3,aI c_4,aI c_5,a8 c_6,a32 c_7,a8 c_8,aI c_9,aNil],.agg [a8 c_1,a32 c_2,a8 c_3,aI c_4,aI c_5,a8 c_6,a32 c_7,a8 c_8,aI c_9,y1]]=some (aB true)) (hS2:limf env 30 [.agg [a8 p_1,a32 p_2,a8 p_3,aI p_4,aI p_5,a8 p_6,a32 p_7,a8 p_8,aI p_9,aNil],.agg [a8 p_1,a32 p_2,a8 p_3,aI p_4,aI p_5,a8 p_6,a32 p_7,a8 p_8,aI p_9,y2]]=some (aB true)) (hS3:limf env 30 [.agg [a8 u_1,a32 u_2,a8 u_3,aI u_4,aI u_5,a8 u_6,a32 u_7,a8 u_8,aI u_9,aNil],.agg [a8 u_1,a32 u_2,a8 u_3,aI u_4,aI u_5,a8 u_6,a32 u_7,a8 u_8,aI u_9,y3]]=some (aB true)) (hS4:limf env 30 [.agg [a8 t_1,a32 t_2,a8 t_3,aI t_4,aI t_5,a8 t_6,a32 t_7,a8 t_8,aI t_9,aNil],.agg [a8 t_1,a32 t_2,a8 t_3,aI t_4,aI t_5,a8 t_6,a32 t_7,a8 t_8,aI t_9,y4]]=some (aB true))
 (h19:limf env 19 [.agg [a8 a_1,a32 a_2,a8 a_3,aI a_4,aI a_5,a8 a_6,a32 a_7,a8 a_8,aI a_9,aNil]]=some (aI e5)) (h32:limf env 32 [.agg [a8 a_1,a32 a_2,a8 a_3,aI a_4,aI a_5,a8 a_6,a32 a_7,a8 a_8,aI a_9,x0]]=some (aI e5)) (h18:limf env 18 [.agg [a8 a_1,a32 a_2,a8 a_3,aI a_4,aI a_5,a8 a_6,a32 a_7,a8 a_8,aI a_9,aNil],.agg [a8 b_1,a32 b_2,a8 b_3,aI b_4,aI b_5,a8 b_6,a32 b_7,a8 b_8,aI b_9,(.isl 1 (rows m) none)]]=some (aB same)) (h30:limf env 30 [.agg [a8 a_1,a32 a_2,a8 a_3,aI a_4,aI a_5,a8 a_6,a32 a_7,a8 a_8,aI a_9,x0],.agg [a8 b_1,a32 b_2,a8 b_3,aI b_4,aI b_5,a8 b_6,a32 b_7,a8 b_8,aI b_9,x1]]=some (aB same)) (h18':limf env 18 [.agg [a8 a_1,a32 a_2,a8 a_3,aI a_4,aI a_5,a8 a_6,a32 a_7,a8 a_8,aI a_9,aNil],.agg [a8 a_1,a32 a_2,a8 a_3,aI a_4,aI a_5,a8 a_6,a32 a_7,a8 a_8,aI a_9,x0]]=some (aB true)) (h30':limf env 30 [.agg [a8 a_1,a32 a_2,a8 a_3,aI a_4,aI a_5,a8 a_6,a32 a_7,a8 a_8,aI a_9,aNil],.agg [a8 a_1,a32 a_2,a8 a_3,aI a_4,aI a_5,a8 a_6,a32 a_7,a8 a_8,aI a_9,x0]]=some (aB true)) (h30'':limf env 30 [.agg [a8 b_1,a32 b_2,a8 b_3,aI b_4,aI b_5,a8 b_6,a32 b_7,a8 b_8,aI b_9,(.isl 1 (rows m) none)],.agg [a8 b_1,a32 b_2,a8 b_3,aI b_4,aI b_5,a8 b_6,a32 b_7,a8 b_8,aI b_9,x1]]=some (aB true)) (h34:limf env 34 [.agg [a8 o_1,a8 o_2,a32 o_3,a8 o_4,aI o_5,a8 o_6,a32 o_7,a8 o_8,aI o_9,aI o_10,a8 o_11,a32 o_12,a8 o_13,aI o_14,a8 o_15,a32 o_16,(.isl 1 (rows q) none)],.agg [a8 o_1,a8 o_2,a32 o_3,a8 o_4,aI o_5,a8 o_6,a32 o_7,a8 o_8,aI o_9,aI o_10,a8 o_11,a32 o_12,a8 o_13,aI o_14,a8 o_15,a32 o_16,x2]]=some (aB true)) :
 limf env 6 [.agg [a8 a_1,a32 a_2,a8 a_3,aI a_4,aI a_5,a8 a_6,a32 a_7,a8 a_8,aI a_9,x0],.agg [a8 b_1,a32 b_2,a8 b_3,aI b_4,aI b_5,a8 b_6,a32 b_7,a8 b_8,aI b_9,x1],.agg [a8 o_1,a8 o_2,a32 o_3,a8 o_4,aI o_5,a8 o_6,a32 o_7,a8 o_8,aI o_9,aI o_10,a8 o_11,a32 o_12,a8 o_13,aI o_14,a8 o_15,a32 o_16,x2],aI n]=some (aB true):=by
 have hF1:=fun H r=>aG (H:=H) (f:=24) (by kernel_rfl) false 0 r (args:=[.agg [a8 a_1,a32 a_2,a8 a_3,aI a_4,aI a_5,a8 a_6,a32 a_7,a8 a_8,aI a_9,x0]]) (by simp[hx.r]) (by simp[hx.r]) hT1
 have hF2:=fun H r=>aG (H:=H) (f:=24) (by kernel_rfl) false 0 r (args:=[.agg [a8 b_1,a32 b_2,a8 b_3,aI b_4,aI b_5,a8 b_6,a32 b_7,a8 b_8,aI b_9,x1]]) (by simp[hy.r]) (by simp[hy.r]) hT2
 clear hT1 hT2
 refine aC (fn:=Try.f6) (c:=ai) rfl (by kernel_rfl) (by kernel_rfl) (by kernel_rfl) (by kernel_rfl) ?_;refine aq _ _ _ _ _ _ fun g=>?_
 simp[ar,au,ae,af,ab, *,aj,hx.r,hy.r,hz.r,s1.r,s2.r,s3.r,s4.r,frzB,eqA,eqFs]
 refine az c_1 c_2 c_3 c_4 c_5 c_6 c_7 c_8 c_9 ([]:List Int) ?_ ?_ (by simp) (fun v0 J0 F0 k0=>?_)
 ·exact bz rfl
 ·exact(.inl ⟨rfl,rfl⟩)
 have c0_p:=k0 ⟨0,16,0,0⟩ _ (fun e=>by cases e) rfl
 have c0_u:=k0 ⟨0,17,0,0⟩ _ (fun e=>by cases e) rfl
 have c0_t:=k0 ⟨0,22,0,0⟩ _ (fun e=>by cases e) rfl
 have c0_v:=k0 ⟨0,35,0,0⟩ _ (fun e=>by cases e) rfl
 have d0_4:=k0 ⟨0,4,0,0⟩ _ (fun e=>by cases e) rfl
 have d0_5:=k0 ⟨0,5,0,0⟩ _ (fun e=>by cases e) rfl
 have d0_6:=k0 ⟨0,6,0,0⟩ _ (fun e=>by cases e) rfl
 have d0_9:=k0 ⟨0,9,0,0⟩ _ (fun e=>by cases e) rfl
 have d0_10:=k0 ⟨0,10,0,0⟩ _ (fun e=>by cases e) rfl
 have d0_11:=k0 ⟨0,11,0,0⟩ _ (fun e=>by cases e) rfl
 have w0_y:=k0 ⟨0,56,0,0⟩ _ (fun e=>by cases e) rfl
 clear k0
 simp[c0_p]
 refine az p_1 p_2 p_3 p_4 p_5 p_6 p_7 p_8 p_9 ([]:List Int) ?_ ?_ (by simp) (fun v1 J1 F1 k1=>?_)
 ·exact F0
 ·exact(.inl ⟨rfl,rfl⟩)
 have c1_u:=k1 ⟨0,17,0,0⟩ _ (fun e=>by cases e) c0_u
 have c1_t:=k1 ⟨0,22,0,0⟩ _ (fun e=>by cases e) c0_t
 have c1_v:=k1 ⟨0,35,0,0⟩ _ (fun e=>by cases e) c0_v
 have d1_4:=k1 ⟨0,4,0,0⟩ _ (fun e=>by cases e) d0_4
 have d1_5:=k1 ⟨0,5,0,0⟩ _ (fun e=>by cases e) d0_5
 have d1_6:=k1 ⟨0,6,0,0⟩ _ (fun e=>by cases e) d0_6
 have d1_9:=k1 ⟨0,9,0,0⟩ _ (fun e=>by cases e) d0_9
 have d1_10:=k1 ⟨0,10,0,0⟩ _ (fun e=>by cases e) d0_10
 have d1_11:=k1 ⟨0,11,0,0⟩ _ (fun e=>by cases e) d0_11
 have w1_y:=k1 ⟨0,56,0,0⟩ _ (fun e=>by cases e) w0_y
 clear k1
 simp[c1_u]
 refine az u_1 u_2 u_3 u_4 u_5 u_6 u_7 u_8 u_9 ([]:List Int) ?_ ?_ (by simp) (fun v2 J2 F2 k2=>?_)
 ·exact F1
 ·exact(.inl ⟨rfl,rfl⟩)
 have c2_t:=k2 ⟨0,22,0,0⟩ _ (fun e=>by cases e) c1_t
 have c2_v:=k2 ⟨0,35,0,0⟩ _ (fun e=>by cases e) c1_v
 have d2_4:=k2 ⟨0,4,0,0⟩ _ (fun e=>by cases e) d1_4
 have d2_5:=k2 ⟨0,5,0,0⟩ _ (fun e=>by cases e) d1_5
 have d2_6:=k2 ⟨0,6,0,0⟩ _ (fun e=>by cases e) d1_6
 have d2_9:=k2 ⟨0,9,0,0⟩ _ (fun e=>by cases e) d1_9
 have d2_10:=k2 ⟨0,10,0,0⟩ _ (fun e=>by cases e) d1_10
 have d2_11:=k2 ⟨0,11,0,0⟩ _ (fun e=>by cases e) d1_11
 have w2_y:=k2 ⟨0,56,0,0⟩ _ (fun e=>by cases e) w1_y
 clear k2
 simp[c2_t]
 refine az t_1 t_2 t_3 t_4 t_5 t_6 t_7 t_8 t_9 ([]:List Int) ?_ ?_ (by simp) (fun v3 J3 F3 k3=>?_)
 ·exact F2
 ·exact(.inl ⟨rfl,rfl⟩)
 have c3_v:=k3 ⟨0,35,0,0⟩ _ (fun e=>by cases e) c2_v
 have d3_4:=k3 ⟨0,4,0,0⟩ _ (fun e=>by cases e) d2_4
 have d3_5:=k3 ⟨0,5,0,0⟩ _ (fun e=>by cases e) d2_5
 have d3_6:=k3 ⟨0,6,0,0⟩ _ (fun e=>by cases e) d2_6
 have d3_9:=k3 ⟨0,9,0,0⟩ _ (fun e=>by cases e) d2_9
 have d3_10:=k3 ⟨0,10,0,0⟩ _ (fun e=>by cases e) d2_10
 have d3_11:=k3 ⟨0,11,0,0⟩ _ (fun e=>by cases e) d2_11
 have w3_y:=k3 ⟨0,56,0,0⟩ _ (fun e=>by cases e) w2_y
 clear k3
 simp[c3_v]
 refine az a_1 a_2 a_3 a_4 a_5 a_6 a_7 a_8 a_9 ([]:List Int) ?_ ?_ (by simp) (fun v4 J4 F4 k4=>?_)
 ·exact F3
 ·exact(.inl ⟨rfl,rfl⟩)
 have d4_4:=k4 ⟨0,4,0,0⟩ _ (fun e=>by cases e) d3_4
 have d4_5:=k4 ⟨0,5,0,0⟩ _ (fun e=>by cases e) d3_5
 have d4_6:=k4 ⟨0,6,0,0⟩ _ (fun e=>by cases e) d3_6
 have d4_9:=k4 ⟨0,9,0,0⟩ _ (fun e=>by cases e) d3_9
 have d4_10:=k4 ⟨0,10,0,0⟩ _ (fun e=>by cases e) d3_10
 have d4_11:=k4 ⟨0,11,0,0⟩ _ (fun e=>by cases e) d3_11
 have w4_y:=k4 ⟨0,56,0,0⟩ _ (fun e=>by cases e) w3_y
 clear k4
 simp[d4_4,d4_5,d4_6,d4_9,d4_10,d4_11,w4_y,hx.r,hy.r,hz.r,h30',h30'',h34]
set_option maxHeartbeats 4000000 in
theorem rz(a_1:UInt8)(a_2:UInt32)(a_3:UInt8)(a_4:Int)(a_5:Int)(a_6:UInt8)(a_7:UInt32)(a_8:UInt8)(a_9:Int)(b_1:UInt8)(b_2:UInt32)(b_3:UInt8)(b_4:Int)(b_5:Int)(b_6:UInt8)(b_7:UInt32)(b_8:UInt8)(b_9:Int)(o_1:UInt8)(o_2:UInt8)(o_3:UInt32)(o_4:UInt8)(o_5:Int)(o_6:UInt8)(o_7:UInt32)(o_8:UInt8)(o_9:Int)(o_10:Int)(o_11:UInt8)(o_12:UInt32)(o_13:UInt8)(o_14:Int)(o_15:UInt8)(o_16:UInt32)(c_1:UInt8)(c_2:UInt32)(c_3:UInt8)(c_4:Int)(c_5:Int)(c_6:UInt8)(c_7:UInt32)(c_8:UInt8)(c_9:Int)(p_1:UInt8)(p_2:UInt32)(p_3:UInt8)(p_4:Int)(p_5:Int)(p_6:UInt8)(p_7:UInt32)(p_8:UInt8)(p_9:Int)(u_1:UInt8)(u_2:UInt32)(u_3:UInt8)(u_4:Int)(u_5:Int)(u_6:UInt8)(u_7:UInt32)(u_8:UInt8)(u_9:Int)(t_1:UInt8)(t_2:UInt32)(t_3:UInt8)(t_4:Int)(t_5:Int)(t_6:UInt8)(t_7:UInt32)(t_8:UInt8)(t_9:Int)(i_1:UInt8)(i_2:UInt32)(i_3:UInt8)(i_4:Int)(j_1:UInt8)(j_2:UInt32)(j_3:UInt8)(j_4:Int)(n k e1 e2 e3 e4 e5:Int)(same:Bool){x0 x1 x2 y1 y2 y3 y4:AV}{m q cl:List Int}
 (hx:Sl 1 (rows ([]:List Int)) x0) (hy:Sl 1 (rows m) x1) (hz:Sl 1 (rows q) x2)
 (nm:rows m≠[]) (gm : ¬(1000:Int)<m.length)
 (nq:rows q≠[]) (gq : ¬(1000:Int)<q.length)
 (ncl:rows cl≠[]) (bcl:cl.length<100000)
 (hT1:limf env 24 [.agg [a8 a_1,a32 a_2,a8 a_3,aI a_4,aI a_5,a8 a_6,a32 a_7,a8 a_8,aI a_9,x0]]=some (.agg [a8 a_1,a32 a_2,a8 a_3,aI a_4,aI a_5,a8 a_6,a32 a_7,a8 a_8,aI a_9,aNil])) (hT2:limf env 24 [.agg [a8 b_1,a32 b_2,a8 b_3,aI b_4,aI b_5,a8 b_6,a32 b_7,a8 b_8,aI b_9,x1]]=some (.agg [a8 b_1,a32 b_2,a8 b_3,aI b_4,aI b_5,a8 b_6,a32 b_7,a8 b_8,aI b_9,(.fsl 1 (rows m) none)])) (hT3:limf env 25 [.agg [a8 o_1,a8 o_2,a32 o_3,a8 o_4,aI o_5,a8 o_6,a32 o_7,a8 o_8,aI o_9,aI o_10,a8 o_11,a32 o_12,a8 o_13,aI o_14,a8 o_15,a32 o_16,x2]]=some (.agg [a8 o_1,a8 o_2,a32 o_3,a8 o_4,aI o_5,a8 o_6,a32 o_7,a8 o_8,aI o_9,aI o_10,a8 o_11,a32 o_12,a8 o_13,aI o_14,a8 o_15,a32 o_16,(.isl 1 (rows q) none)]))
 (h23:limf env 23 [.agg [a8 o_1,a8 o_2,a32 o_3,a8 o_4,aI o_5,a8 o_6,a32 o_7,a8 o_8,aI o_9,aI o_10,a8 o_11,a32 o_12,a8 o_13,aI o_14,a8 o_15,a32 o_16,(.isl 1 (rows q) none)]]=some (.tup [.agg [a8 c_1,a32 c_2,a8 c_3,aI c_4,aI c_5,a8 c_6,a32 c_7,a8 c_8,aI c_9,(.fsl 1 (rows cl) none)],aI e1])) (h26:limf env 26 [.agg [a8 o_1,a8 o_2,a32 o_3,a8 o_4,aI o_5,a8 o_6,a32 o_7,a8 o_8,aI o_9,aI o_10,a8 o_11,a32 o_12,a8 o_13,aI o_14,a8 o_15,a32 o_16,x2]]=some (.tup [.agg [a8 c_1,a32 c_2,a8 c_3,aI c_4,aI c_5,a8 c_6,a32 c_7,a8 c_8,aI c_9,y1],aI e1])) (s1:Sl 1 (rows cl) y1)
 (h17:limf env 17 [.agg [a8 a_1,a32 a_2,a8 a_3,aI a_4,aI a_5,a8 a_6,a32 a_7,a8 a_8,aI a_9,aNil],aI n]=some (.tup [.agg [a8 p_1,a32 p_2,a8 p_3,aI p_4,aI p_5,a8 p_6,a32 p_7,a8 p_8,aI p_9,aNil],.agg [a8 u_1,a32 u_2,a8 u_3,aI u_4,aI u_5,a8 u_6,a32 u_7,a8 u_8,aI u_9,aNil],aI e2])) (h27:limf env 27 [.agg [a8 a_1,a32 a_2,a8 a_3,aI a_4,aI a_5,a8 a_6,a32 a_7,a8 a_8,aI a_9,x0],aI n]=some (.tup [.agg [a8 p_1,a32 p_2,a8 p_3,aI p_4,aI p_5,a8 p_6,a32 p_7,a8 p_8,aI p_9,y2],.agg [a8 u_1,a32 u_2,a8 u_3,aI u_4,aI u_5,a8 u_6,a32 u_7,a8 u_8,aI u_9,y3],aI e2])) (s2:Sl 1 (rows ([]:List Int)) y2) (s3:Sl 1 (rows ([]:List Int)) y3)
 (h16:limf env 16 [.agg [a8 a_1,a32 a_2,a8 a_3,aI a_4,aI a_5,a8 a_6,a32 a_7,a8 a_8,aI a_9,aNil],.agg [a8 b_1,a32 b_2,a8 b_3,aI b_4,aI b_5,a8 b_6,a32 b_7,a8 b_8,aI b_9,(.isl 1 (rows m) none)]]=some (.tup [.agg [a8 t_1,a32 t_2,a8 t_3,aI t_4,aI t_5,a8 t_6,a32 t_7,a8 t_8,aI t_9,aNil],aI e3])) (h28:limf env 28 [.agg [a8 a_1,a32 a_2,a8 a_3,aI a_4,aI a_5,a8 a_6,a32 a_7,a8 a_8,aI a_9,x0],.agg [a8 b_1,a32 b_2,a8 b_3,aI b_4,aI b_5,a8 b_6,a32 b_7,a8 b_8,aI b_9,x1]]=some (.tup [.agg [a8 t_1,a32 t_2,a8 t_3,aI t_4,aI t_5,a8 t_6,a32 t_7,a8 t_8,aI t_9,y4],aI e3])) (s4:Sl 1 (rows ([]:List Int)) y4)
 (h20:limf env 20 [.agg [a8 a_1,a32 a_2,a8 a_3,aI a_4,aI a_5,a8 a_6,a32 a_7,a8 a_8,aI a_9,aNil],aI n]=some (.tup [.agg [a8 i_1,a32 i_2,a8 i_3,aI i_4],.agg [a8 j_1,a32 j_2,a8 j_3,aI j_4],.v (.int .i32 k),aI e4])) (h29:limf env 29 [.agg [a8 a_1,a32 a_2,a8 a_3,aI a_4,aI a_5,a8 a_6,a32 a_7,a8 a_8,aI a_9,x0],aI n]=some (.tup [.agg [a8 i_1,a32 i_2,a8 i_3,aI i_4],.agg [a8 j_1,a32 j_2,a8 j_3,aI j_4],.v (.int .i32 k),aI e4]))
 (h31:limf env 31 [.agg [a8 a_1,a32 a_2,a8 a_3,aI a_4,aI a_5,a8 a_6,a32 a_7,a8 a_8,aI a_9,aNil]]=some (.agg [a8 a_1,a32 a_2,a8 a_3,aI a_4,aI a_5,a8 a_6,a32 a_7,a8 a_8,aI a_9,aNil]))
 (hS1:limf env 30 [.agg [a8 c_1,a32 c_2,a8 c_3,aI c_4,aI c_5,a8 c_6,a32 c_7,a8 c_8,aI c_9,(.isl 1 (rows cl) none)],.agg [a8 c_1,a32 c_2,a8 c_3,aI c_4,aI c_5,a8 c_6,a32 c_7,a8 c_8,aI c_9,y1]]=some (aB true)) (hS2:limf env 30 [.agg [a8 p_1,a32 p_2,a8 p_3,aI p_4,aI p_5,a8 p_6,a32 p_7,a8 p_8,aI p_9,aNil],.agg [a8 p_1,a32 p_2,a8 p_3,aI p_4,aI p_5,a8 p_6,a32 p_7,a8 p_8,aI p_9,y2]]=some (aB true)) (hS3:limf env 30 [.agg [a8 u_1,a32 u_2,a8 u_3,aI u_4,aI u_5,a8 u_6,a32 u_7,a8 u_8,aI u_9,aNil],.agg [a8 u_1,a32 u_2,a8 u_3,aI u_4,aI u_5,a8 u_6,a32 u_7,a8 u_8,aI u_9,y3]]=some (aB true)) (hS4:limf env 30 [.agg [a8 t_1,a32 t_2,a8 t_3,aI t_4,aI t_5,a8 t_6,a32 t_7,a8 t_8,aI t_9,aNil],.agg [a8 t_1,a32 t_2,a8 t_3,aI t_4,aI t_5,a8 t_6,a32 t_7,a8 t_8,aI t_9,y4]]=some (aB true))
 (h19:limf env 19 [.agg [a8 a_1,a32 a_2,a8 a_3,aI a_4,aI a_5,a8 a_6,a32 a_7,a8 a_8,aI a_9,aNil]]=some (aI e5)) (h32:limf env 32 [.agg [a8 a_1,a32 a_2,a8 a_3,aI a_4,aI a_5,a8 a_6,a32 a_7,a8 a_8,aI a_9,x0]]=some (aI e5)) (h18:limf env 18 [.agg [a8 a_1,a32 a_2,a8 a_3,aI a_4,aI a_5,a8 a_6,a32 a_7,a8 a_8,aI a_9,aNil],.agg [a8 b_1,a32 b_2,a8 b_3,aI b_4,aI b_5,a8 b_6,a32 b_7,a8 b_8,aI b_9,(.isl 1 (rows m) none)]]=some (aB same)) (h30:limf env 30 [.agg [a8 a_1,a32 a_2,a8 a_3,aI a_4,aI a_5,a8 a_6,a32 a_7,a8 a_8,aI a_9,x0],.agg [a8 b_1,a32 b_2,a8 b_3,aI b_4,aI b_5,a8 b_6,a32 b_7,a8 b_8,aI b_9,x1]]=some (aB same)) (h18':limf env 18 [.agg [a8 a_1,a32 a_2,a8 a_3,aI a_4,aI a_5,a8 a_6,a32 a_7,a8 a_8,aI a_9,aNil],.agg [a8 a_1,a32 a_2,a8 a_3,aI a_4,aI a_5,a8 a_6,a32 a_7,a8 a_8,aI a_9,x0]]=some (aB true)) (h30':limf env 30 [.agg [a8 a_1,a32 a_2,a8 a_3,aI a_4,aI a_5,a8 a_6,a32 a_7,a8 a_8,aI a_9,aNil],.agg [a8 a_1,a32 a_2,a8 a_3,aI a_4,aI a_5,a8 a_6,a32 a_7,a8 a_8,aI a_9,x0]]=some (aB true)) (h30'':limf env 30 [.agg [a8 b_1,a32 b_2,a8 b_3,aI b_4,aI b_5,a8 b_6,a32 b_7,a8 b_8,aI b_9,(.isl 1 (rows m) none)],.agg [a8 b_1,a32 b_2,a8 b_3,aI b_4,aI b_5,a8 b_6,a32 b_7,a8 b_8,aI b_9,x1]]=some (aB true)) (h34:limf env 34 [.agg [a8 o_1,a8 o_2,a32 o_3,a8 o_4,aI o_5,a8 o_6,a32 o_7,a8 o_8,aI o_9,aI o_10,a8 o_11,a32 o_12,a8 o_13,aI o_14,a8 o_15,a32 o_16,(.isl 1 (rows q) none)],.agg [a8 o_1,a8 o_2,a32 o_3,a8 o_4,aI o_5,a8 o_6,a32 o_7,a8 o_8,aI o_9,aI o_10,a8 o_11,a32 o_12,a8 o_13,aI o_14,a8 o_15,a32 o_16,x2]]=some (aB true)) :
 limf env 6 [.agg [a8 a_1,a32 a_2,a8 a_3,aI a_4,aI a_5,a8 a_6,a32 a_7,a8 a_8,aI a_9,x0],.agg [a8 b_1,a32 b_2,a8 b_3,aI b_4,aI b_5,a8 b_6,a32 b_7,a8 b_8,aI b_9,x1],.agg [a8 o_1,a8 o_2,a32 o_3,a8 o_4,aI o_5,a8 o_6,a32 o_7,a8 o_8,aI o_9,aI o_10,a8 o_11,a32 o_12,a8 o_13,aI o_14,a8 o_15,a32 o_16,x2],aI n]=some (aB true):=by
 have hF1:=fun H r=>aG (H:=H) (f:=24) (by kernel_rfl) false 0 r (args:=[.agg [a8 a_1,a32 a_2,a8 a_3,aI a_4,aI a_5,a8 a_6,a32 a_7,a8 a_8,aI a_9,x0]]) (by simp[hx.r]) (by simp[hx.r]) hT1
 have hF2:=fun H r=>aG (H:=H) (f:=24) (by kernel_rfl) false 0 r (args:=[.agg [a8 b_1,a32 b_2,a8 b_3,aI b_4,aI b_5,a8 b_6,a32 b_7,a8 b_8,aI b_9,x1]]) (by simp[hy.r]) (by simp[hy.r]) hT2
 have fcl:=aF cl
 clear hT1 hT2
 refine aC (fn:=Try.f6) (c:=ai) rfl (by kernel_rfl) (by kernel_rfl) (by kernel_rfl) (by kernel_rfl) ?_;refine aq _ _ _ _ _ _ fun g=>?_
 simp[ar,au,ae,af,ab, *,aj,hx.r,hy.r,hz.r,s1.r,s2.r,s3.r,s4.r,frzB,eqA,eqFs]
 refine az c_1 c_2 c_3 c_4 c_5 c_6 c_7 c_8 c_9 cl ?_ ?_ bcl (fun v0 J0 F0 k0=>?_)
 ·exact bz rfl
 ·exact(.inr ⟨⟨0,61,0,0⟩,none,by simp,rfl⟩)
 have c0_p:=k0 ⟨0,16,0,0⟩ _ (fun e=>by cases e) rfl
 have c0_u:=k0 ⟨0,17,0,0⟩ _ (fun e=>by cases e) rfl
 have c0_t:=k0 ⟨0,22,0,0⟩ _ (fun e=>by cases e) rfl
 have c0_v:=k0 ⟨0,35,0,0⟩ _ (fun e=>by cases e) rfl
 have d0_4:=k0 ⟨0,4,0,0⟩ _ (fun e=>by cases e) rfl
 have d0_5:=k0 ⟨0,5,0,0⟩ _ (fun e=>by cases e) rfl
 have d0_6:=k0 ⟨0,6,0,0⟩ _ (fun e=>by cases e) rfl
 have d0_9:=k0 ⟨0,9,0,0⟩ _ (fun e=>by cases e) rfl
 have d0_10:=k0 ⟨0,10,0,0⟩ _ (fun e=>by cases e) rfl
 have d0_11:=k0 ⟨0,11,0,0⟩ _ (fun e=>by cases e) rfl
 have w0_y:=k0 ⟨0,56,0,0⟩ _ (fun e=>by cases e) rfl
 clear k0
 simp[c0_p]
 refine az p_1 p_2 p_3 p_4 p_5 p_6 p_7 p_8 p_9 ([]:List Int) ?_ ?_ (by simp) (fun v1 J1 F1 k1=>?_)
 ·exact F0
 ·exact(.inl ⟨rfl,rfl⟩)
 have c1_u:=k1 ⟨0,17,0,0⟩ _ (fun e=>by cases e) c0_u
 have c1_t:=k1 ⟨0,22,0,0⟩ _ (fun e=>by cases e) c0_t
 have c1_v:=k1 ⟨0,35,0,0⟩ _ (fun e=>by cases e) c0_v
 have d1_4:=k1 ⟨0,4,0,0⟩ _ (fun e=>by cases e) d0_4
 have d1_5:=k1 ⟨0,5,0,0⟩ _ (fun e=>by cases e) d0_5
 have d1_6:=k1 ⟨0,6,0,0⟩ _ (fun e=>by cases e) d0_6
 have d1_9:=k1 ⟨0,9,0,0⟩ _ (fun e=>by cases e) d0_9
 have d1_10:=k1 ⟨0,10,0,0⟩ _ (fun e=>by cases e) d0_10
 have d1_11:=k1 ⟨0,11,0,0⟩ _ (fun e=>by cases e) d0_11
 have w1_y:=k1 ⟨0,56,0,0⟩ _ (fun e=>by cases e) w0_y
 clear k1
 simp[c1_u]
 refine az u_1 u_2 u_3 u_4 u_5 u_6 u_7 u_8 u_9 ([]:List Int) ?_ ?_ (by simp) (fun v2 J2 F2 k2=>?_)
 ·exact F1
 ·exact(.inl ⟨rfl,rfl⟩)
 have c2_t:=k2 ⟨0,22,0,0⟩ _ (fun e=>by cases e) c1_t
 have c2_v:=k2 ⟨0,35,0,0⟩ _ (fun e=>by cases e) c1_v
 have d2_4:=k2 ⟨0,4,0,0⟩ _ (fun e=>by cases e) d1_4
 have d2_5:=k2 ⟨0,5,0,0⟩ _ (fun e=>by cases e) d1_5
 have d2_6:=k2 ⟨0,6,0,0⟩ _ (fun e=>by cases e) d1_6
 have d2_9:=k2 ⟨0,9,0,0⟩ _ (fun e=>by cases e) d1_9
 have d2_10:=k2 ⟨0,10,0,0⟩ _ (fun e=>by cases e) d1_10
 have d2_11:=k2 ⟨0,11,0,0⟩ _ (fun e=>by cases e) d1_11
 have w2_y:=k2 ⟨0,56,0,0⟩ _ (fun e=>by cases e) w1_y
 clear k2
 simp[c2_t]
 refine az t_1 t_2 t_3 t_4 t_5 t_6 t_7 t_8 t_9 ([]:List Int) ?_ ?_ (by simp) (fun v3 J3 F3 k3=>?_)
 ·exact F2
 ·exact(.inl ⟨rfl,rfl⟩)
 have c3_v:=k3 ⟨0,35,0,0⟩ _ (fun e=>by cases e) c2_v
 have d3_4:=k3 ⟨0,4,0,0⟩ _ (fun e=>by cases e) d2_4
 have d3_5:=k3 ⟨0,5,0,0⟩ _ (fun e=>by cases e) d2_5
 have d3_6:=k3 ⟨0,6,0,0⟩ _ (fun e=>by cases e) d2_6
 have d3_9:=k3 ⟨0,9,0,0⟩ _ (fun e=>by cases e) d2_9
 have d3_10:=k3 ⟨0,10,0,0⟩ _ (fun e=>by cases e) d2_10
 have d3_11:=k3 ⟨0,11,0,0⟩ _ (fun e=>by cases e) d2_11
 have w3_y:=k3 ⟨0,56,0,0⟩ _ (fun e=>by cases e) w2_y
 clear k3
 simp[c3_v]
 refine az a_1 a_2 a_3 a_4 a_5 a_6 a_7 a_8 a_9 ([]:List Int) ?_ ?_ (by simp) (fun v4 J4 F4 k4=>?_)
 ·exact F3
 ·exact(.inl ⟨rfl,rfl⟩)
 have d4_4:=k4 ⟨0,4,0,0⟩ _ (fun e=>by cases e) d3_4
 have d4_5:=k4 ⟨0,5,0,0⟩ _ (fun e=>by cases e) d3_5
 have d4_6:=k4 ⟨0,6,0,0⟩ _ (fun e=>by cases e) d3_6
 have d4_9:=k4 ⟨0,9,0,0⟩ _ (fun e=>by cases e) d3_9
 have d4_10:=k4 ⟨0,10,0,0⟩ _ (fun e=>by cases e) d3_10
 have d4_11:=k4 ⟨0,11,0,0⟩ _ (fun e=>by cases e) d3_11
 have w4_y:=k4 ⟨0,56,0,0⟩ _ (fun e=>by cases e) w3_y
 clear k4
 simp[d4_4,d4_5,d4_6,d4_9,d4_10,d4_11,w4_y,hx.r,hy.r,hz.r,h30',h30'',h34]
set_option maxHeartbeats 4000000 in
theorem ry(a_1:UInt8)(a_2:UInt32)(a_3:UInt8)(a_4:Int)(a_5:Int)(a_6:UInt8)(a_7:UInt32)(a_8:UInt8)(a_9:Int)(b_1:UInt8)(b_2:UInt32)(b_3:UInt8)(b_4:Int)(b_5:Int)(b_6:UInt8)(b_7:UInt32)(b_8:UInt8)(b_9:Int)(o_1:UInt8)(o_2:UInt8)(o_3:UInt32)(o_4:UInt8)(o_5:Int)(o_6:UInt8)(o_7:UInt32)(o_8:UInt8)(o_9:Int)(o_10:Int)(o_11:UInt8)(o_12:UInt32)(o_13:UInt8)(o_14:Int)(o_15:UInt8)(o_16:UInt32)(c_1:UInt8)(c_2:UInt32)(c_3:UInt8)(c_4:Int)(c_5:Int)(c_6:UInt8)(c_7:UInt32)(c_8:UInt8)(c_9:Int)(p_1:UInt8)(p_2:UInt32)(p_3:UInt8)(p_4:Int)(p_5:Int)(p_6:UInt8)(p_7:UInt32)(p_8:UInt8)(p_9:Int)(u_1:UInt8)(u_2:UInt32)(u_3:UInt8)(u_4:Int)(u_5:Int)(u_6:UInt8)(u_7:UInt32)(u_8:UInt8)(u_9:Int)(t_1:UInt8)(t_2:UInt32)(t_3:UInt8)(t_4:Int)(t_5:Int)(t_6:UInt8)(t_7:UInt32)(t_8:UInt8)(t_9:Int)(i_1:UInt8)(i_2:UInt32)(i_3:UInt8)(i_4:Int)(j_1:UInt8)(j_2:UInt32)(j_3:UInt8)(j_4:Int)(n k e1 e2 e3 e4 e5:Int)(same:Bool){x0 x1 x2 y1 y2 y3 y4:AV}{l:List Int}
 (hx:Sl 1 (rows l) x0) (hy:Sl 1 (rows ([]:List Int)) x1) (hz:Sl 1 (rows ([]:List Int)) x2)
 (nl:rows l≠[]) (gl : ¬(1000:Int)<l.length)
 (hT1:limf env 24 [.agg [a8 a_1,a32 a_2,a8 a_3,aI a_4,aI a_5,a8 a_6,a32 a_7,a8 a_8,aI a_9,x0]]=some (.agg [a8 a_1,a32 a_2,a8 a_3,aI a_4,aI a_5,a8 a_6,a32 a_7,a8 a_8,aI a_9,(.fsl 1 (rows l) none)])) (hT2:limf env 24 [.agg [a8 b_1,a32 b_2,a8 b_3,aI b_4,aI b_5,a8 b_6,a32 b_7,a8 b_8,aI b_9,x1]]=some (.agg [a8 b_1,a32 b_2,a8 b_3,aI b_4,aI b_5,a8 b_6,a32 b_7,a8 b_8,aI b_9,aNil])) (hT3:limf env 25 [.agg [a8 o_1,a8 o_2,a32 o_3,a8 o_4,aI o_5,a8 o_6,a32 o_7,a8 o_8,aI o_9,aI o_10,a8 o_11,a32 o_12,a8 o_13,aI o_14,a8 o_15,a32 o_16,x2]]=some (.agg [a8 o_1,a8 o_2,a32 o_3,a8 o_4,aI o_5,a8 o_6,a32 o_7,a8 o_8,aI o_9,aI o_10,a8 o_11,a32 o_12,a8 o_13,aI o_14,a8 o_15,a32 o_16,aNil]))
 (h23:limf env 23 [.agg [a8 o_1,a8 o_2,a32 o_3,a8 o_4,aI o_5,a8 o_6,a32 o_7,a8 o_8,aI o_9,aI o_10,a8 o_11,a32 o_12,a8 o_13,aI o_14,a8 o_15,a32 o_16,aNil]]=some (.tup [.agg [a8 c_1,a32 c_2,a8 c_3,aI c_4,aI c_5,a8 c_6,a32 c_7,a8 c_8,aI c_9,aNil],aI e1])) (h26:limf env 26 [.agg [a8 o_1,a8 o_2,a32 o_3,a8 o_4,aI o_5,a8 o_6,a32 o_7,a8 o_8,aI o_9,aI o_10,a8 o_11,a32 o_12,a8 o_13,aI o_14,a8 o_15,a32 o_16,x2]]=some (.tup [.agg [a8 c_1,a32 c_2,a8 c_3,aI c_4,aI c_5,a8 c_6,a32 c_7,a8 c_8,aI c_9,y1],aI e1])) (s1:Sl 1 (rows ([]:List Int)) y1)
 (h17:limf env 17 [.agg [a8 a_1,a32 a_2,a8 a_3,aI a_4,aI a_5,a8 a_6,a32 a_7,a8 a_8,aI a_9,(.isl 1 (rows l) none)],aI n]=some (.tup [.agg [a8 p_1,a32 p_2,a8 p_3,aI p_4,aI p_5,a8 p_6,a32 p_7,a8 p_8,aI p_9,aNil],.agg [a8 u_1,a32 u_2,a8 u_3,aI u_4,aI u_5,a8 u_6,a32 u_7,a8 u_8,aI u_9,aNil],aI e2])) (h27:limf env 27 [.agg [a8 a_1,a32 a_2,a8 a_3,aI a_4,aI a_5,a8 a_6,a32 a_7,a8 a_8,aI a_9,x0],aI n]=some (.tup [.agg [a8 p_1,a32 p_2,a8 p_3,aI p_4,aI p_5,a8 p_6,a32 p_7,a8 p_8,aI p_9,y2],.agg [a8 u_1,a32 u_2,a8 u_3,aI u_4,aI u_5,a8 u_6,a32 u_7,a8 u_8,aI u_9,y3],aI e2])) (s2:Sl 1 (rows ([]:List Int)) y2) (s3:Sl 1 (rows ([]:List Int)) y3)
 (h16:limf env 16 [.agg [a8 a_1,a32 a_2,a8 a_3,aI a_4,aI a_5,a8 a_6,a32 a_7,a8 a_8,aI a_9,(.isl 1 (rows l) none)],.agg [a8 b_1,a32 b_2,a8 b_3,aI b_4,aI b_5,a8 b_6,a32 b_7,a8 b_8,aI b_9,aNil]]=some (.tup [.agg [a8 t_1,a32 t_2,a8 t_3,aI t_4,aI t_5,a8 t_6,a32 t_7,a8 t_8,aI t_9,aNil],aI e3])) (h28:limf env 28 [.agg [a8 a_1,a32 a_2,a8 a_3,aI a_4,aI a_5,a8 a_6,a32 a_7,a8 a_8,aI a_9,x0],.agg [a8 b_1,a32 b_2,a8 b_3,aI b_4,aI b_5,a8 b_6,a32 b_7,a8 b_8,aI b_9,x1]]=some (.tup [.agg [a8 t_1,a32 t_2,a8 t_3,aI t_4,aI t_5,a8 t_6,a32 t_7,a8 t_8,aI t_9,y4],aI e3])) (s4:Sl 1 (rows ([]:List Int)) y4)
 (h20:limf env 20 [.agg [a8 a_1,a32 a_2,a8 a_3,aI a_4,aI a_5,a8 a_6,a32 a_7,a8 a_8,aI a_9,(.isl 1 (rows l) none)],aI n]=some (.tup [.agg [a8 i_1,a32 i_2,a8 i_3,aI i_4],.agg [a8 j_1,a32 j_2,a8 j_3,aI j_4],.v (.int .i32 k),aI e4])) (h29:limf env 29 [.agg [a8 a_1,a32 a_2,a8 a_3,aI a_4,aI a_5,a8 a_6,a32 a_7,a8 a_8,aI a_9,x0],aI n]=some (.tup [.agg [a8 i_1,a32 i_2,a8 i_3,aI i_4],.agg [a8 j_1,a32 j_2,a8 j_3,aI j_4],.v (.int .i32 k),aI e4]))
 (h31:limf env 31 [.agg [a8 a_1,a32 a_2,a8 a_3,aI a_4,aI a_5,a8 a_6,a32 a_7,a8 a_8,aI a_9,(.isl 1 (rows l) none)]]=some (.agg [a8 a_1,a32 a_2,a8 a_3,aI a_4,aI a_5,a8 a_6,a32 a_7,a8 a_8,aI a_9,(.fsl 1 (rows l) none)]))
 (hS1:limf env 30 [.agg [a8 c_1,a32 c_2,a8 c_3,aI c_4,aI c_5,a8 c_6,a32 c_7,a8 c_8,aI c_9,aNil],.agg [a8 c_1,a32 c_2,a8 c_3,aI c_4,aI c_5,a8 c_6,a32 c_7,a8 c_8,aI c_9,y1]]=some (aB true)) (hS2:limf env 30 [.agg [a8 p_1,a32 p_2,a8 p_3,aI p_4,aI p_5,a8 p_6,a32 p_7,a8 p_8,aI p_9,aNil],.agg [a8 p_1,a32 p_2,a8 p_3,aI p_4,aI p_5,a8 p_6,a32 p_7,a8 p_8,aI p_9,y2]]=some (aB true)) (hS3:limf env 30 [.agg [a8 u_1,a32 u_2,a8 u_3,aI u_4,aI u_5,a8 u_6,a32 u_7,a8 u_8,aI u_9,aNil],.agg [a8 u_1,a32 u_2,a8 u_3,aI u_4,aI u_5,a8 u_6,a32 u_7,a8 u_8,aI u_9,y3]]=some (aB true)) (hS4:limf env 30 [.agg [a8 t_1,a32 t_2,a8 t_3,aI t_4,aI t_5,a8 t_6,a32 t_7,a8 t_8,aI t_9,aNil],.agg [a8 t_1,a32 t_2,a8 t_3,aI t_4,aI t_5,a8 t_6,a32 t_7,a8 t_8,aI t_9,y4]]=some (aB true))
 (h19:limf env 19 [.agg [a8 a_1,a32 a_2,a8 a_3,aI a_4,aI a_5,a8 a_6,a32 a_7,a8 a_8,aI a_9,(.isl 1 (rows l) none)]]=some (aI e5)) (h32:limf env 32 [.agg [a8 a_1,a32 a_2,a8 a_3,aI a_4,aI a_5,a8 a_6,a32 a_7,a8 a_8,aI a_9,x0]]=some (aI e5)) (h18:limf env 18 [.agg [a8 a_1,a32 a_2,a8 a_3,aI a_4,aI a_5,a8 a_6,a32 a_7,a8 a_8,aI a_9,(.isl 1 (rows l) none)],.agg [a8 b_1,a32 b_2,a8 b_3,aI b_4,aI b_5,a8 b_6,a32 b_7,a8 b_8,aI b_9,aNil]]=some (aB same)) (h30:limf env 30 [.agg [a8 a_1,a32 a_2,a8 a_3,aI a_4,aI a_5,a8 a_6,a32 a_7,a8 a_8,aI a_9,x0],.agg [a8 b_1,a32 b_2,a8 b_3,aI b_4,aI b_5,a8 b_6,a32 b_7,a8 b_8,aI b_9,x1]]=some (aB same)) (h18':limf env 18 [.agg [a8 a_1,a32 a_2,a8 a_3,aI a_4,aI a_5,a8 a_6,a32 a_7,a8 a_8,aI a_9,(.isl 1 (rows l) none)],.agg [a8 a_1,a32 a_2,a8 a_3,aI a_4,aI a_5,a8 a_6,a32 a_7,a8 a_8,aI a_9,x0]]=some (aB true)) (h30':limf env 30 [.agg [a8 a_1,a32 a_2,a8 a_3,aI a_4,aI a_5,a8 a_6,a32 a_7,a8 a_8,aI a_9,(.isl 1 (rows l) none)],.agg [a8 a_1,a32 a_2,a8 a_3,aI a_4,aI a_5,a8 a_6,a32 a_7,a8 a_8,aI a_9,x0]]=some (aB true)) (h30'':limf env 30 [.agg [a8 b_1,a32 b_2,a8 b_3,aI b_4,aI b_5,a8 b_6,a32 b_7,a8 b_8,aI b_9,aNil],.agg [a8 b_1,a32 b_2,a8 b_3,aI b_4,aI b_5,a8 b_6,a32 b_7,a8 b_8,aI b_9,x1]]=some (aB true)) (h34:limf env 34 [.agg [a8 o_1,a8 o_2,a32 o_3,a8 o_4,aI o_5,a8 o_6,a32 o_7,a8 o_8,aI o_9,aI o_10,a8 o_11,a32 o_12,a8 o_13,aI o_14,a8 o_15,a32 o_16,aNil],.agg [a8 o_1,a8 o_2,a32 o_3,a8 o_4,aI o_5,a8 o_6,a32 o_7,a8 o_8,aI o_9,aI o_10,a8 o_11,a32 o_12,a8 o_13,aI o_14,a8 o_15,a32 o_16,x2]]=some (aB true)) :
 limf env 6 [.agg [a8 a_1,a32 a_2,a8 a_3,aI a_4,aI a_5,a8 a_6,a32 a_7,a8 a_8,aI a_9,x0],.agg [a8 b_1,a32 b_2,a8 b_3,aI b_4,aI b_5,a8 b_6,a32 b_7,a8 b_8,aI b_9,x1],.agg [a8 o_1,a8 o_2,a32 o_3,a8 o_4,aI o_5,a8 o_6,a32 o_7,a8 o_8,aI o_9,aI o_10,a8 o_11,a32 o_12,a8 o_13,aI o_14,a8 o_15,a32 o_16,x2],aI n]=some (aB true):=by
 have hF1:=fun H r=>aG (H:=H) (f:=24) (by kernel_rfl) false 0 r (args:=[.agg [a8 a_1,a32 a_2,a8 a_3,aI a_4,aI a_5,a8 a_6,a32 a_7,a8 a_8,aI a_9,x0]]) (by simp[hx.r]) (by simp[hx.r]) hT1
 have hF2:=fun H r=>aG (H:=H) (f:=24) (by kernel_rfl) false 0 r (args:=[.agg [a8 b_1,a32 b_2,a8 b_3,aI b_4,aI b_5,a8 b_6,a32 b_7,a8 b_8,aI b_9,x1]]) (by simp[hy.r]) (by simp[hy.r]) hT2
 have fl:=aF l
 clear hT1 hT2
 refine aC (fn:=Try.f6) (c:=ai) rfl (by kernel_rfl) (by kernel_rfl) (by kernel_rfl) (by kernel_rfl) ?_;refine aq _ _ _ _ _ _ fun g=>?_
 simp[ar,au,ae,af,ab, *,aj,hx.r,hy.r,hz.r,s1.r,s2.r,s3.r,s4.r,frzB,eqA,eqFs]
 refine az c_1 c_2 c_3 c_4 c_5 c_6 c_7 c_8 c_9 ([]:List Int) ?_ ?_ (by simp) (fun v0 J0 F0 k0=>?_)
 ·exact bz rfl
 ·exact(.inl ⟨rfl,rfl⟩)
 have c0_p:=k0 ⟨0,16,0,0⟩ _ (fun e=>by cases e) rfl
 have c0_u:=k0 ⟨0,17,0,0⟩ _ (fun e=>by cases e) rfl
 have c0_t:=k0 ⟨0,22,0,0⟩ _ (fun e=>by cases e) rfl
 have c0_v:=k0 ⟨0,35,0,0⟩ _ (fun e=>by cases e) rfl
 have r0_v:=k0 ⟨0,145,0,0⟩ _ (fun e=>by cases e) rfl
 have d0_4:=k0 ⟨0,4,0,0⟩ _ (fun e=>by cases e) rfl
 have d0_5:=k0 ⟨0,5,0,0⟩ _ (fun e=>by cases e) rfl
 have d0_6:=k0 ⟨0,6,0,0⟩ _ (fun e=>by cases e) rfl
 have d0_9:=k0 ⟨0,9,0,0⟩ _ (fun e=>by cases e) rfl
 have d0_10:=k0 ⟨0,10,0,0⟩ _ (fun e=>by cases e) rfl
 have d0_11:=k0 ⟨0,11,0,0⟩ _ (fun e=>by cases e) rfl
 have w0_x:=k0 ⟨0,54,0,0⟩ _ (fun e=>by cases e) rfl
 clear k0
 simp[c0_p]
 refine az p_1 p_2 p_3 p_4 p_5 p_6 p_7 p_8 p_9 ([]:List Int) ?_ ?_ (by simp) (fun v1 J1 F1 k1=>?_)
 ·exact F0
 ·exact(.inl ⟨rfl,rfl⟩)
 have c1_u:=k1 ⟨0,17,0,0⟩ _ (fun e=>by cases e) c0_u
 have c1_t:=k1 ⟨0,22,0,0⟩ _ (fun e=>by cases e) c0_t
 have c1_v:=k1 ⟨0,35,0,0⟩ _ (fun e=>by cases e) c0_v
 have r1_v:=k1 ⟨0,145,0,0⟩ _ (fun e=>by cases e) r0_v
 have d1_4:=k1 ⟨0,4,0,0⟩ _ (fun e=>by cases e) d0_4
 have d1_5:=k1 ⟨0,5,0,0⟩ _ (fun e=>by cases e) d0_5
 have d1_6:=k1 ⟨0,6,0,0⟩ _ (fun e=>by cases e) d0_6
 have d1_9:=k1 ⟨0,9,0,0⟩ _ (fun e=>by cases e) d0_9
 have d1_10:=k1 ⟨0,10,0,0⟩ _ (fun e=>by cases e) d0_10
 have d1_11:=k1 ⟨0,11,0,0⟩ _ (fun e=>by cases e) d0_11
 have w1_x:=k1 ⟨0,54,0,0⟩ _ (fun e=>by cases e) w0_x
 clear k1
 simp[c1_u]
 refine az u_1 u_2 u_3 u_4 u_5 u_6 u_7 u_8 u_9 ([]:List Int) ?_ ?_ (by simp) (fun v2 J2 F2 k2=>?_)
 ·exact F1
 ·exact(.inl ⟨rfl,rfl⟩)
 have c2_t:=k2 ⟨0,22,0,0⟩ _ (fun e=>by cases e) c1_t
 have c2_v:=k2 ⟨0,35,0,0⟩ _ (fun e=>by cases e) c1_v
 have r2_v:=k2 ⟨0,145,0,0⟩ _ (fun e=>by cases e) r1_v
 have d2_4:=k2 ⟨0,4,0,0⟩ _ (fun e=>by cases e) d1_4
 have d2_5:=k2 ⟨0,5,0,0⟩ _ (fun e=>by cases e) d1_5
 have d2_6:=k2 ⟨0,6,0,0⟩ _ (fun e=>by cases e) d1_6
 have d2_9:=k2 ⟨0,9,0,0⟩ _ (fun e=>by cases e) d1_9
 have d2_10:=k2 ⟨0,10,0,0⟩ _ (fun e=>by cases e) d1_10
 have d2_11:=k2 ⟨0,11,0,0⟩ _ (fun e=>by cases e) d1_11
 have w2_x:=k2 ⟨0,54,0,0⟩ _ (fun e=>by cases e) w1_x
 clear k2
 simp[c2_t]
 refine az t_1 t_2 t_3 t_4 t_5 t_6 t_7 t_8 t_9 ([]:List Int) ?_ ?_ (by simp) (fun v3 J3 F3 k3=>?_)
 ·exact F2
 ·exact(.inl ⟨rfl,rfl⟩)
 have c3_v:=k3 ⟨0,35,0,0⟩ _ (fun e=>by cases e) c2_v
 have r3_v:=k3 ⟨0,145,0,0⟩ _ (fun e=>by cases e) r2_v
 have d3_4:=k3 ⟨0,4,0,0⟩ _ (fun e=>by cases e) d2_4
 have d3_5:=k3 ⟨0,5,0,0⟩ _ (fun e=>by cases e) d2_5
 have d3_6:=k3 ⟨0,6,0,0⟩ _ (fun e=>by cases e) d2_6
 have d3_9:=k3 ⟨0,9,0,0⟩ _ (fun e=>by cases e) d2_9
 have d3_10:=k3 ⟨0,10,0,0⟩ _ (fun e=>by cases e) d2_10
 have d3_11:=k3 ⟨0,11,0,0⟩ _ (fun e=>by cases e) d2_11
 have w3_x:=k3 ⟨0,54,0,0⟩ _ (fun e=>by cases e) w2_x
 clear k3
 simp[c3_v]
 refine az a_1 a_2 a_3 a_4 a_5 a_6 a_7 a_8 a_9 l ?_ ?_ (by omega) (fun v4 J4 F4 k4=>?_)
 ·exact F3
 ·exact(.inr ⟨⟨0,145,0,0⟩,none,by simp,r3_v⟩)
 have d4_4:=k4 ⟨0,4,0,0⟩ _ (fun e=>by cases e) d3_4
 have d4_5:=k4 ⟨0,5,0,0⟩ _ (fun e=>by cases e) d3_5
 have d4_6:=k4 ⟨0,6,0,0⟩ _ (fun e=>by cases e) d3_6
 have d4_9:=k4 ⟨0,9,0,0⟩ _ (fun e=>by cases e) d3_9
 have d4_10:=k4 ⟨0,10,0,0⟩ _ (fun e=>by cases e) d3_10
 have d4_11:=k4 ⟨0,11,0,0⟩ _ (fun e=>by cases e) d3_11
 have w4_x:=k4 ⟨0,54,0,0⟩ _ (fun e=>by cases e) w3_x
 clear k4
 simp[d4_4,d4_5,d4_6,d4_9,d4_10,d4_11,w4_x,hx.r,hy.r,hz.r,h30',h30'',h34]
set_option maxHeartbeats 4000000 in
theorem ru(a_1:UInt8)(a_2:UInt32)(a_3:UInt8)(a_4:Int)(a_5:Int)(a_6:UInt8)(a_7:UInt32)(a_8:UInt8)(a_9:Int)(b_1:UInt8)(b_2:UInt32)(b_3:UInt8)(b_4:Int)(b_5:Int)(b_6:UInt8)(b_7:UInt32)(b_8:UInt8)(b_9:Int)(o_1:UInt8)(o_2:UInt8)(o_3:UInt32)(o_4:UInt8)(o_5:Int)(o_6:UInt8)(o_7:UInt32)(o_8:UInt8)(o_9:Int)(o_10:Int)(o_11:UInt8)(o_12:UInt32)(o_13:UInt8)(o_14:Int)(o_15:UInt8)(o_16:UInt32)(c_1:UInt8)(c_2:UInt32)(c_3:UInt8)(c_4:Int)(c_5:Int)(c_6:UInt8)(c_7:UInt32)(c_8:UInt8)(c_9:Int)(p_1:UInt8)(p_2:UInt32)(p_3:UInt8)(p_4:Int)(p_5:Int)(p_6:UInt8)(p_7:UInt32)(p_8:UInt8)(p_9:Int)(u_1:UInt8)(u_2:UInt32)(u_3:UInt8)(u_4:Int)(u_5:Int)(u_6:UInt8)(u_7:UInt32)(u_8:UInt8)(u_9:Int)(t_1:UInt8)(t_2:UInt32)(t_3:UInt8)(t_4:Int)(t_5:Int)(t_6:UInt8)(t_7:UInt32)(t_8:UInt8)(t_9:Int)(i_1:UInt8)(i_2:UInt32)(i_3:UInt8)(i_4:Int)(j_1:UInt8)(j_2:UInt32)(j_3:UInt8)(j_4:Int)(n k e1 e2 e3 e4 e5:Int)(same:Bool){x0 x1 x2 y1 y2 y3 y4:AV}{l pl ql:List Int}
 (hx:Sl 1 (rows l) x0) (hy:Sl 1 (rows ([]:List Int)) x1) (hz:Sl 1 (rows ([]:List Int)) x2)
 (nl:rows l≠[]) (gl : ¬(1000:Int)<l.length)
 (npl:rows pl≠[]) (bpl:pl.length<100000)
 (nql:rows ql≠[]) (bql:ql.length<100000)
 (hT1:limf env 24 [.agg [a8 a_1,a32 a_2,a8 a_3,aI a_4,aI a_5,a8 a_6,a32 a_7,a8 a_8,aI a_9,x0]]=some (.agg [a8 a_1,a32 a_2,a8 a_3,aI a_4,aI a_5,a8 a_6,a32 a_7,a8 a_8,aI a_9,(.fsl 1 (rows l) none)])) (hT2:limf env 24 [.agg [a8 b_1,a32 b_2,a8 b_3,aI b_4,aI b_5,a8 b_6,a32 b_7,a8 b_8,aI b_9,x1]]=some (.agg [a8 b_1,a32 b_2,a8 b_3,aI b_4,aI b_5,a8 b_6,a32 b_7,a8 b_8,aI b_9,aNil])) (hT3:limf env 25 [.agg [a8 o_1,a8 o_2,a32 o_3,a8 o_4,aI o_5,a8 o_6,a32 o_7,a8 o_8,aI o_9,aI o_10,a8 o_11,a32 o_12,a8 o_13,aI o_14,a8 o_15,a32 o_16,x2]]=some (.agg [a8 o_1,a8 o_2,a32 o_3,a8 o_4,aI o_5,a8 o_6,a32 o_7,a8 o_8,aI o_9,aI o_10,a8 o_11,a32 o_12,a8 o_13,aI o_14,a8 o_15,a32 o_16,aNil]))
 (h23:limf env 23 [.agg [a8 o_1,a8 o_2,a32 o_3,a8 o_4,aI o_5,a8 o_6,a32 o_7,a8 o_8,aI o_9,aI o_10,a8 o_11,a32 o_12,a8 o_13,aI o_14,a8 o_15,a32 o_16,aNil]]=some (.tup [.agg [a8 c_1,a32 c_2,a8 c_3,aI c_4,aI c_5,a8 c_6,a32 c_7,a8 c_8,aI c_9,aNil],aI e1])) (h26:limf env 26 [.agg [a8 o_1,a8 o_2,a32 o_3,a8 o_4,aI o_5,a8 o_6,a32 o_7,a8 o_8,aI o_9,aI o_10,a8 o_11,a32 o_12,a8 o_13,aI o_14,a8 o_15,a32 o_16,x2]]=some (.tup [.agg [a8 c_1,a32 c_2,a8 c_3,aI c_4,aI c_5,a8 c_6,a32 c_7,a8 c_8,aI c_9,y1],aI e1])) (s1:Sl 1 (rows ([]:List Int)) y1)
 (h17:limf env 17 [.agg [a8 a_1,a32 a_2,a8 a_3,aI a_4,aI a_5,a8 a_6,a32 a_7,a8 a_8,aI a_9,(.isl 1 (rows l) none)],aI n]=some (.tup [.agg [a8 p_1,a32 p_2,a8 p_3,aI p_4,aI p_5,a8 p_6,a32 p_7,a8 p_8,aI p_9,(.fsl 1 (rows pl) none)],.agg [a8 u_1,a32 u_2,a8 u_3,aI u_4,aI u_5,a8 u_6,a32 u_7,a8 u_8,aI u_9,(.fsl 1 (rows ql) none)],aI e2])) (h27:limf env 27 [.agg [a8 a_1,a32 a_2,a8 a_3,aI a_4,aI a_5,a8 a_6,a32 a_7,a8 a_8,aI a_9,x0],aI n]=some (.tup [.agg [a8 p_1,a32 p_2,a8 p_3,aI p_4,aI p_5,a8 p_6,a32 p_7,a8 p_8,aI p_9,y2],.agg [a8 u_1,a32 u_2,a8 u_3,aI u_4,aI u_5,a8 u_6,a32 u_7,a8 u_8,aI u_9,y3],aI e2])) (s2:Sl 1 (rows pl) y2) (s3:Sl 1 (rows ql) y3)
 (h16:limf env 16 [.agg [a8 a_1,a32 a_2,a8 a_3,aI a_4,aI a_5,a8 a_6,a32 a_7,a8 a_8,aI a_9,(.isl 1 (rows l) none)],.agg [a8 b_1,a32 b_2,a8 b_3,aI b_4,aI b_5,a8 b_6,a32 b_7,a8 b_8,aI b_9,aNil]]=some (.tup [.agg [a8 t_1,a32 t_2,a8 t_3,aI t_4,aI t_5,a8 t_6,a32 t_7,a8 t_8,aI t_9,aNil],aI e3])) (h28:limf env 28 [.agg [a8 a_1,a32 a_2,a8 a_3,aI a_4,aI a_5,a8 a_6,a32 a_7,a8 a_8,aI a_9,x0],.agg [a8 b_1,a32 b_2,a8 b_3,aI b_4,aI b_5,a8 b_6,a32 b_7,a8 b_8,aI b_9,x1]]=some (.tup [.agg [a8 t_1,a32 t_2,a8 t_3,aI t_4,aI t_5,a8 t_6,a32 t_7,a8 t_8,aI t_9,y4],aI e3])) (s4:Sl 1 (rows ([]:List Int)) y4)
 (h20:limf env 20 [.agg [a8 a_1,a32 a_2,a8 a_3,aI a_4,aI a_5,a8 a_6,a32 a_7,a8 a_8,aI a_9,(.isl 1 (rows l) none)],aI n]=some (.tup [.agg [a8 i_1,a32 i_2,a8 i_3,aI i_4],.agg [a8 j_1,a32 j_2,a8 j_3,aI j_4],.v (.int .i32 k),aI e4])) (h29:limf env 29 [.agg [a8 a_1,a32 a_2,a8 a_3,aI a_4,aI a_5,a8 a_6,a32 a_7,a8 a_8,aI a_9,x0],aI n]=some (.tup [.agg [a8 i_1,a32 i_2,a8 i_3,aI i_4],.agg [a8 j_1,a32 j_2,a8 j_3,aI j_4],.v (.int .i32 k),aI e4]))
 (h31:limf env 31 [.agg [a8 a_1,a32 a_2,a8 a_3,aI a_4,aI a_5,a8 a_6,a32 a_7,a8 a_8,aI a_9,(.isl 1 (rows l) none)]]=some (.agg [a8 a_1,a32 a_2,a8 a_3,aI a_4,aI a_5,a8 a_6,a32 a_7,a8 a_8,aI a_9,(.fsl 1 (rows l) none)]))
 (hS1:limf env 30 [.agg [a8 c_1,a32 c_2,a8 c_3,aI c_4,aI c_5,a8 c_6,a32 c_7,a8 c_8,aI c_9,aNil],.agg [a8 c_1,a32 c_2,a8 c_3,aI c_4,aI c_5,a8 c_6,a32 c_7,a8 c_8,aI c_9,y1]]=some (aB true)) (hS2:limf env 30 [.agg [a8 p_1,a32 p_2,a8 p_3,aI p_4,aI p_5,a8 p_6,a32 p_7,a8 p_8,aI p_9,(.isl 1 (rows pl) none)],.agg [a8 p_1,a32 p_2,a8 p_3,aI p_4,aI p_5,a8 p_6,a32 p_7,a8 p_8,aI p_9,y2]]=some (aB true)) (hS3:limf env 30 [.agg [a8 u_1,a32 u_2,a8 u_3,aI u_4,aI u_5,a8 u_6,a32 u_7,a8 u_8,aI u_9,(.isl 1 (rows ql) none)],.agg [a8 u_1,a32 u_2,a8 u_3,aI u_4,aI u_5,a8 u_6,a32 u_7,a8 u_8,aI u_9,y3]]=some (aB true)) (hS4:limf env 30 [.agg [a8 t_1,a32 t_2,a8 t_3,aI t_4,aI t_5,a8 t_6,a32 t_7,a8 t_8,aI t_9,aNil],.agg [a8 t_1,a32 t_2,a8 t_3,aI t_4,aI t_5,a8 t_6,a32 t_7,a8 t_8,aI t_9,y4]]=some (aB true))
 (h19:limf env 19 [.agg [a8 a_1,a32 a_2,a8 a_3,aI a_4,aI a_5,a8 a_6,a32 a_7,a8 a_8,aI a_9,(.isl 1 (rows l) none)]]=some (aI e5)) (h32:limf env 32 [.agg [a8 a_1,a32 a_2,a8 a_3,aI a_4,aI a_5,a8 a_6,a32 a_7,a8 a_8,aI a_9,x0]]=some (aI e5)) (h18:limf env 18 [.agg [a8 a_1,a32 a_2,a8 a_3,aI a_4,aI a_5,a8 a_6,a32 a_7,a8 a_8,aI a_9,(.isl 1 (rows l) none)],.agg [a8 b_1,a32 b_2,a8 b_3,aI b_4,aI b_5,a8 b_6,a32 b_7,a8 b_8,aI b_9,aNil]]=some (aB same)) (h30:limf env 30 [.agg [a8 a_1,a32 a_2,a8 a_3,aI a_4,aI a_5,a8 a_6,a32 a_7,a8 a_8,aI a_9,x0],.agg [a8 b_1,a32 b_2,a8 b_3,aI b_4,aI b_5,a8 b_6,a32 b_7,a8 b_8,aI b_9,x1]]=some (aB same)) (h18':limf env 18 [.agg [a8 a_1,a32 a_2,a8 a_3,aI a_4,aI a_5,a8 a_6,a32 a_7,a8 a_8,aI a_9,(.isl 1 (rows l) none)],.agg [a8 a_1,a32 a_2,a8 a_3,aI a_4,aI a_5,a8 a_6,a32 a_7,a8 a_8,aI a_9,x0]]=some (aB true)) (h30':limf env 30 [.agg [a8 a_1,a32 a_2,a8 a_3,aI a_4,aI a_5,a8 a_6,a32 a_7,a8 a_8,aI a_9,(.isl 1 (rows l) none)],.agg [a8 a_1,a32 a_2,a8 a_3,aI a_4,aI a_5,a8 a_6,a32 a_7,a8 a_8,aI a_9,x0]]=some (aB true)) (h30'':limf env 30 [.agg [a8 b_1,a32 b_2,a8 b_3,aI b_4,aI b_5,a8 b_6,a32 b_7,a8 b_8,aI b_9,aNil],.agg [a8 b_1,a32 b_2,a8 b_3,aI b_4,aI b_5,a8 b_6,a32 b_7,a8 b_8,aI b_9,x1]]=some (aB true)) (h34:limf env 34 [.agg [a8 o_1,a8 o_2,a32 o_3,a8 o_4,aI o_5,a8 o_6,a32 o_7,a8 o_8,aI o_9,aI o_10,a8 o_11,a32 o_12,a8 o_13,aI o_14,a8 o_15,a32 o_16,aNil],.agg [a8 o_1,a8 o_2,a32 o_3,a8 o_4,aI o_5,a8 o_6,a32 o_7,a8 o_8,aI o_9,aI o_10,a8 o_11,a32 o_12,a8 o_13,aI o_14,a8 o_15,a32 o_16,x2]]=some (aB true)) :
 limf env 6 [.agg [a8 a_1,a32 a_2,a8 a_3,aI a_4,aI a_5,a8 a_6,a32 a_7,a8 a_8,aI a_9,x0],.agg [a8 b_1,a32 b_2,a8 b_3,aI b_4,aI b_5,a8 b_6,a32 b_7,a8 b_8,aI b_9,x1],.agg [a8 o_1,a8 o_2,a32 o_3,a8 o_4,aI o_5,a8 o_6,a32 o_7,a8 o_8,aI o_9,aI o_10,a8 o_11,a32 o_12,a8 o_13,aI o_14,a8 o_15,a32 o_16,x2],aI n]=some (aB true):=by
 have hF1:=fun H r=>aG (H:=H) (f:=24) (by kernel_rfl) false 0 r (args:=[.agg [a8 a_1,a32 a_2,a8 a_3,aI a_4,aI a_5,a8 a_6,a32 a_7,a8 a_8,aI a_9,x0]]) (by simp[hx.r]) (by simp[hx.r]) hT1
 have hF2:=fun H r=>aG (H:=H) (f:=24) (by kernel_rfl) false 0 r (args:=[.agg [a8 b_1,a32 b_2,a8 b_3,aI b_4,aI b_5,a8 b_6,a32 b_7,a8 b_8,aI b_9,x1]]) (by simp[hy.r]) (by simp[hy.r]) hT2
 have fpl:=aF pl
 have fql:=aF ql
 have fl:=aF l
 clear hT1 hT2
 refine aC (fn:=Try.f6) (c:=ai) rfl (by kernel_rfl) (by kernel_rfl) (by kernel_rfl) (by kernel_rfl) ?_;refine aq _ _ _ _ _ _ fun g=>?_
 simp[ar,au,ae,af,ab, *,aj,hx.r,hy.r,hz.r,s1.r,s2.r,s3.r,s4.r,frzB,eqA,eqFs]
 refine az c_1 c_2 c_3 c_4 c_5 c_6 c_7 c_8 c_9 ([]:List Int) ?_ ?_ (by simp) (fun v0 J0 F0 k0=>?_)
 ·exact bz rfl
 ·exact(.inl ⟨rfl,rfl⟩)
 have c0_p:=k0 ⟨0,16,0,0⟩ _ (fun e=>by cases e) rfl
 have r0_p:=k0 ⟨0,72,0,0⟩ _ (fun e=>by cases e) rfl
 have c0_u:=k0 ⟨0,17,0,0⟩ _ (fun e=>by cases e) rfl
 have r0_u:=k0 ⟨0,72,0,1⟩ _ (fun e=>by cases e) rfl
 have c0_t:=k0 ⟨0,22,0,0⟩ _ (fun e=>by cases e) rfl
 have c0_v:=k0 ⟨0,35,0,0⟩ _ (fun e=>by cases e) rfl
 have r0_v:=k0 ⟨0,145,0,0⟩ _ (fun e=>by cases e) rfl
 have d0_4:=k0 ⟨0,4,0,0⟩ _ (fun e=>by cases e) rfl
 have d0_5:=k0 ⟨0,5,0,0⟩ _ (fun e=>by cases e) rfl
 have d0_6:=k0 ⟨0,6,0,0⟩ _ (fun e=>by cases e) rfl
 have d0_9:=k0 ⟨0,9,0,0⟩ _ (fun e=>by cases e) rfl
 have d0_10:=k0 ⟨0,10,0,0⟩ _ (fun e=>by cases e) rfl
 have d0_11:=k0 ⟨0,11,0,0⟩ _ (fun e=>by cases e) rfl
 have w0_x:=k0 ⟨0,54,0,0⟩ _ (fun e=>by cases e) rfl
 clear k0
 simp[c0_p]
 refine az p_1 p_2 p_3 p_4 p_5 p_6 p_7 p_8 p_9 pl ?_ ?_ bpl (fun v1 J1 F1 k1=>?_)
 ·exact F0
 ·exact(.inr ⟨⟨0,72,0,0⟩,none,by simp,r0_p⟩)
 have c1_u:=k1 ⟨0,17,0,0⟩ _ (fun e=>by cases e) c0_u
 have r1_u:=k1 ⟨0,72,0,1⟩ _ (fun e=>by cases e) r0_u
 have c1_t:=k1 ⟨0,22,0,0⟩ _ (fun e=>by cases e) c0_t
 have c1_v:=k1 ⟨0,35,0,0⟩ _ (fun e=>by cases e) c0_v
 have r1_v:=k1 ⟨0,145,0,0⟩ _ (fun e=>by cases e) r0_v
 have d1_4:=k1 ⟨0,4,0,0⟩ _ (fun e=>by cases e) d0_4
 have d1_5:=k1 ⟨0,5,0,0⟩ _ (fun e=>by cases e) d0_5
 have d1_6:=k1 ⟨0,6,0,0⟩ _ (fun e=>by cases e) d0_6
 have d1_9:=k1 ⟨0,9,0,0⟩ _ (fun e=>by cases e) d0_9
 have d1_10:=k1 ⟨0,10,0,0⟩ _ (fun e=>by cases e) d0_10
 have d1_11:=k1 ⟨0,11,0,0⟩ _ (fun e=>by cases e) d0_11
 have w1_x:=k1 ⟨0,54,0,0⟩ _ (fun e=>by cases e) w0_x
 clear k1
 simp[c1_u]
 refine az u_1 u_2 u_3 u_4 u_5 u_6 u_7 u_8 u_9 ql ?_ ?_ bql (fun v2 J2 F2 k2=>?_)
 ·exact F1
 ·exact(.inr ⟨⟨0,72,0,1⟩,none,by simp,r1_u⟩)
 have c2_t:=k2 ⟨0,22,0,0⟩ _ (fun e=>by cases e) c1_t
 have c2_v:=k2 ⟨0,35,0,0⟩ _ (fun e=>by cases e) c1_v
 have r2_v:=k2 ⟨0,145,0,0⟩ _ (fun e=>by cases e) r1_v
 have d2_4:=k2 ⟨0,4,0,0⟩ _ (fun e=>by cases e) d1_4
 have d2_5:=k2 ⟨0,5,0,0⟩ _ (fun e=>by cases e) d1_5
 have d2_6:=k2 ⟨0,6,0,0⟩ _ (fun e=>by cases e) d1_6
 have d2_9:=k2 ⟨0,9,0,0⟩ _ (fun e=>by cases e) d1_9
 have d2_10:=k2 ⟨0,10,0,0⟩ _ (fun e=>by cases e) d1_10
 have d2_11:=k2 ⟨0,11,0,0⟩ _ (fun e=>by cases e) d1_11
 have w2_x:=k2 ⟨0,54,0,0⟩ _ (fun e=>by cases e) w1_x
 clear k2
 simp[c2_t]
 refine az t_1 t_2 t_3 t_4 t_5 t_6 t_7 t_8 t_9 ([]:List Int) ?_ ?_ (by simp) (fun v3 J3 F3 k3=>?_)
 ·exact F2
 ·exact(.inl ⟨rfl,rfl⟩)
 have c3_v:=k3 ⟨0,35,0,0⟩ _ (fun e=>by cases e) c2_v
 have r3_v:=k3 ⟨0,145,0,0⟩ _ (fun e=>by cases e) r2_v
 have d3_4:=k3 ⟨0,4,0,0⟩ _ (fun e=>by cases e) d2_4
 have d3_5:=k3 ⟨0,5,0,0⟩ _ (fun e=>by cases e) d2_5
 have d3_6:=k3 ⟨0,6,0,0⟩ _ (fun e=>by cases e) d2_6
 have d3_9:=k3 ⟨0,9,0,0⟩ _ (fun e=>by cases e) d2_9
 have d3_10:=k3 ⟨0,10,0,0⟩ _ (fun e=>by cases e) d2_10
 have d3_11:=k3 ⟨0,11,0,0⟩ _ (fun e=>by cases e) d2_11
 have w3_x:=k3 ⟨0,54,0,0⟩ _ (fun e=>by cases e) w2_x
 clear k3
 simp[c3_v]
 refine az a_1 a_2 a_3 a_4 a_5 a_6 a_7 a_8 a_9 l ?_ ?_ (by omega) (fun v4 J4 F4 k4=>?_)
 ·exact F3
 ·exact(.inr ⟨⟨0,145,0,0⟩,none,by simp,r3_v⟩)
 have d4_4:=k4 ⟨0,4,0,0⟩ _ (fun e=>by cases e) d3_4
 have d4_5:=k4 ⟨0,5,0,0⟩ _ (fun e=>by cases e) d3_5
 have d4_6:=k4 ⟨0,6,0,0⟩ _ (fun e=>by cases e) d3_6
 have d4_9:=k4 ⟨0,9,0,0⟩ _ (fun e=>by cases e) d3_9
 have d4_10:=k4 ⟨0,10,0,0⟩ _ (fun e=>by cases e) d3_10
 have d4_11:=k4 ⟨0,11,0,0⟩ _ (fun e=>by cases e) d3_11
 have w4_x:=k4 ⟨0,54,0,0⟩ _ (fun e=>by cases e) w3_x
 clear k4
 simp[d4_4,d4_5,d4_6,d4_9,d4_10,d4_11,w4_x,hx.r,hy.r,hz.r,h30',h30'',h34]
set_option maxHeartbeats 4000000 in
theorem rr(a_1:UInt8)(a_2:UInt32)(a_3:UInt8)(a_4:Int)(a_5:Int)(a_6:UInt8)(a_7:UInt32)(a_8:UInt8)(a_9:Int)(b_1:UInt8)(b_2:UInt32)(b_3:UInt8)(b_4:Int)(b_5:Int)(b_6:UInt8)(b_7:UInt32)(b_8:UInt8)(b_9:Int)(o_1:UInt8)(o_2:UInt8)(o_3:UInt32)(o_4:UInt8)(o_5:Int)(o_6:UInt8)(o_7:UInt32)(o_8:UInt8)(o_9:Int)(o_10:Int)(o_11:UInt8)(o_12:UInt32)(o_13:UInt8)(o_14:Int)(o_15:UInt8)(o_16:UInt32)(c_1:UInt8)(c_2:UInt32)(c_3:UInt8)(c_4:Int)(c_5:Int)(c_6:UInt8)(c_7:UInt32)(c_8:UInt8)(c_9:Int)(p_1:UInt8)(p_2:UInt32)(p_3:UInt8)(p_4:Int)(p_5:Int)(p_6:UInt8)(p_7:UInt32)(p_8:UInt8)(p_9:Int)(u_1:UInt8)(u_2:UInt32)(u_3:UInt8)(u_4:Int)(u_5:Int)(u_6:UInt8)(u_7:UInt32)(u_8:UInt8)(u_9:Int)(t_1:UInt8)(t_2:UInt32)(t_3:UInt8)(t_4:Int)(t_5:Int)(t_6:UInt8)(t_7:UInt32)(t_8:UInt8)(t_9:Int)(i_1:UInt8)(i_2:UInt32)(i_3:UInt8)(i_4:Int)(j_1:UInt8)(j_2:UInt32)(j_3:UInt8)(j_4:Int)(n k e1 e2 e3 e4 e5:Int)(same:Bool){x0 x1 x2 y1 y2 y3 y4:AV}{l q:List Int}
 (hx:Sl 1 (rows l) x0) (hy:Sl 1 (rows ([]:List Int)) x1) (hz:Sl 1 (rows q) x2)
 (nl:rows l≠[]) (gl : ¬(1000:Int)<l.length)
 (nq:rows q≠[]) (gq : ¬(1000:Int)<q.length)
 (hT1:limf env 24 [.agg [a8 a_1,a32 a_2,a8 a_3,aI a_4,aI a_5,a8 a_6,a32 a_7,a8 a_8,aI a_9,x0]]=some (.agg [a8 a_1,a32 a_2,a8 a_3,aI a_4,aI a_5,a8 a_6,a32 a_7,a8 a_8,aI a_9,(.fsl 1 (rows l) none)])) (hT2:limf env 24 [.agg [a8 b_1,a32 b_2,a8 b_3,aI b_4,aI b_5,a8 b_6,a32 b_7,a8 b_8,aI b_9,x1]]=some (.agg [a8 b_1,a32 b_2,a8 b_3,aI b_4,aI b_5,a8 b_6,a32 b_7,a8 b_8,aI b_9,aNil])) (hT3:limf env 25 [.agg [a8 o_1,a8 o_2,a32 o_3,a8 o_4,aI o_5,a8 o_6,a32 o_7,a8 o_8,aI o_9,aI o_10,a8 o_11,a32 o_12,a8 o_13,aI o_14,a8 o_15,a32 o_16,x2]]=some (.agg [a8 o_1,a8 o_2,a32 o_3,a8 o_4,aI o_5,a8 o_6,a32 o_7,a8 o_8,aI o_9,aI o_10,a8 o_11,a32 o_12,a8 o_13,aI o_14,a8 o_15,a32 o_16,(.isl 1 (rows q) none)]))
 (h23:limf env 23 [.agg [a8 o_1,a8 o_2,a32 o_3,a8 o_4,aI o_5,a8 o_6,a32 o_7,a8 o_8,aI o_9,aI o_10,a8 o_11,a32 o_12,a8 o_13,aI o_14,a8 o_15,a32 o_16,(.isl 1 (rows q) none)]]=some (.tup [.agg [a8 c_1,a32 c_2,a8 c_3,aI c_4,aI c_5,a8 c_6,a32 c_7,a8 c_8,aI c_9,aNil],aI e1])) (h26:limf env 26 [.agg [a8 o_1,a8 o_2,a32 o_3,a8 o_4,aI o_5,a8 o_6,a32 o_7,a8 o_8,aI o_9,aI o_10,a8 o_11,a32 o_12,a8 o_13,aI o_14,a8 o_15,a32 o_16,x2]]=some (.tup [.agg [a8 c_1,a32 c_2,a8 c_3,aI c_4,aI c_5,a8 c_6,a32 c_7,a8 c_8,aI c_9,y1],aI e1])) (s1:Sl 1 (rows ([]:List Int)) y1)
 (h17:limf env 17 [.agg [a8 a_1,a32 a_2,a8 a_3,aI a_4,aI a_5,a8 a_6,a32 a_7,a8 a_8,aI a_9,(.isl 1 (rows l) none)],aI n]=some (.tup [.agg [a8 p_1,a32 p_2,a8 p_3,aI p_4,aI p_5,a8 p_6,a32 p_7,a8 p_8,aI p_9,aNil],.agg [a8 u_1,a32 u_2,a8 u_3,aI u_4,aI u_5,a8 u_6,a32 u_7,a8 u_8,aI u_9,aNil],aI e2])) (h27:limf env 27 [.agg [a8 a_1,a32 a_2,a8 a_3,aI a_4,aI a_5,a8 a_6,a32 a_7,a8 a_8,aI a_9,x0],aI n]=some (.tup [.agg [a8 p_1,a32 p_2,a8 p_3,aI p_4,aI p_5,a8 p_6,a32 p_7,a8 p_8,aI p_9,y2],.agg [a8 u_1,a32 u_2,a8 u_3,aI u_4,aI u_5,a8 u_6,a32 u_7,a8 u_8,aI u_9,y3],aI e2])) (s2:Sl 1 (rows ([]:List Int)) y2) (s3:Sl 1 (rows ([]:List Int)) y3)
 (h16:limf env 16 [.agg [a8 a_1,a32 a_2,a8 a_3,aI a_4,aI a_5,a8 a_6,a32 a_7,a8 a_8,aI a_9,(.isl 1 (rows l) none)],.agg [a8 b_1,a32 b_2,a8 b_3,aI b_4,aI b_5,a8 b_6,a32 b_7,a8 b_8,aI b_9,aNil]]=some (.tup [.agg [a8 t_1,a32 t_2,a8 t_3,aI t_4,aI t_5,a8 t_6,a32 t_7,a8 t_8,aI t_9,aNil],aI e3])) (h28:limf env 28 [.agg [a8 a_1,a32 a_2,a8 a_3,aI a_4,aI a_5,a8 a_6,a32 a_7,a8 a_8,aI a_9,x0],.agg [a8 b_1,a32 b_2,a8 b_3,aI b_4,aI b_5,a8 b_6,a32 b_7,a8 b_8,aI b_9,x1]]=some (.tup [.agg [a8 t_1,a32 t_2,a8 t_3,aI t_4,aI t_5,a8 t_6,a32 t_7,a8 t_8,aI t_9,y4],aI e3])) (s4:Sl 1 (rows ([]:List Int)) y4)
 (h20:limf env 20 [.agg [a8 a_1,a32 a_2,a8 a_3,aI a_4,aI a_5,a8 a_6,a32 a_7,a8 a_8,aI a_9,(.isl 1 (rows l) none)],aI n]=some (.tup [.agg [a8 i_1,a32 i_2,a8 i_3,aI i_4],.agg [a8 j_1,a32 j_2,a8 j_3,aI j_4],.v (.int .i32 k),aI e4])) (h29:limf env 29 [.agg [a8 a_1,a32 a_2,a8 a_3,aI a_4,aI a_5,a8 a_6,a32 a_7,a8 a_8,aI a_9,x0],aI n]=some (.tup [.agg [a8 i_1,a32 i_2,a8 i_3,aI i_4],.agg [a8 j_1,a32 j_2,a8 j_3,aI j_4],.v (.int .i32 k),aI e4]))
 (h31:limf env 31 [.agg [a8 a_1,a32 a_2,a8 a_3,aI a_4,aI a_5,a8 a_6,a32 a_7,a8 a_8,aI a_9,(.isl 1 (rows l) none)]]=some (.agg [a8 a_1,a32 a_2,a8 a_3,aI a_4,aI a_5,a8 a_6,a32 a_7,a8 a_8,aI a_9,(.fsl 1 (rows l) none)]))
 (hS1:limf env 30 [.agg [a8 c_1,a32 c_2,a8 c_3,aI c_4,aI c_5,a8 c_6,a32 c_7,a8 c_8,aI c_9,aNil],.agg [a8 c_1,a32 c_2,a8 c_3,aI c_4,aI c_5,a8 c_6,a32 c_7,a8 c_8,aI c_9,y1]]=some (aB true)) (hS2:limf env 30 [.agg [a8 p_1,a32 p_2,a8 p_3,aI p_4,aI p_5,a8 p_6,a32 p_7,a8 p_8,aI p_9,aNil],.agg [a8 p_1,a32 p_2,a8 p_3,aI p_4,aI p_5,a8 p_6,a32 p_7,a8 p_8,aI p_9,y2]]=some (aB true)) (hS3:limf env 30 [.agg [a8 u_1,a32 u_2,a8 u_3,aI u_4,aI u_5,a8 u_6,a32 u_7,a8 u_8,aI u_9,aNil],.agg [a8 u_1,a32 u_2,a8 u_3,aI u_4,aI u_5,a8 u_6,a32 u_7,a8 u_8,aI u_9,y3]]=some (aB true)) (hS4:limf env 30 [.agg [a8 t_1,a32 t_2,a8 t_3,aI t_4,aI t_5,a8 t_6,a32 t_7,a8 t_8,aI t_9,aNil],.agg [a8 t_1,a32 t_2,a8 t_3,aI t_4,aI t_5,a8 t_6,a32 t_7,a8 t_8,aI t_9,y4]]=some (aB true))
 (h19:limf env 19 [.agg [a8 a_1,a32 a_2,a8 a_3,aI a_4,aI a_5,a8 a_6,a32 a_7,a8 a_8,aI a_9,(.isl 1 (rows l) none)]]=some (aI e5)) (h32:limf env 32 [.agg [a8 a_1,a32 a_2,a8 a_3,aI a_4,aI a_5,a8 a_6,a32 a_7,a8 a_8,aI a_9,x0]]=some (aI e5)) (h18:limf env 18 [.agg [a8 a_1,a32 a_2,a8 a_3,aI a_4,aI a_5,a8 a_6,a32 a_7,a8 a_8,aI a_9,(.isl 1 (rows l) none)],.agg [a8 b_1,a32 b_2,a8 b_3,aI b_4,aI b_5,a8 b_6,a32 b_7,a8 b_8,aI b_9,aNil]]=some (aB same)) (h30:limf env 30 [.agg [a8 a_1,a32 a_2,a8 a_3,aI a_4,aI a_5,a8 a_6,a32 a_7,a8 a_8,aI a_9,x0],.agg [a8 b_1,a32 b_2,a8 b_3,aI b_4,aI b_5,a8 b_6,a32 b_7,a8 b_8,aI b_9,x1]]=some (aB same)) (h18':limf env 18 [.agg [a8 a_1,a32 a_2,a8 a_3,aI a_4,aI a_5,a8 a_6,a32 a_7,a8 a_8,aI a_9,(.isl 1 (rows l) none)],.agg [a8 a_1,a32 a_2,a8 a_3,aI a_4,aI a_5,a8 a_6,a32 a_7,a8 a_8,aI a_9,x0]]=some (aB true)) (h30':limf env 30 [.agg [a8 a_1,a32 a_2,a8 a_3,aI a_4,aI a_5,a8 a_6,a32 a_7,a8 a_8,aI a_9,(.isl 1 (rows l) none)],.agg [a8 a_1,a32 a_2,a8 a_3,aI a_4,aI a_5,a8 a_6,a32 a_7,a8 a_8,aI a_9,x0]]=some (aB true)) (h30'':limf env 30 [.agg [a8 b_1,a32 b_2,a8 b_3,aI b_4,aI b_5,a8 b_6,a32 b_7,a8 b_8,aI b_9,aNil],.agg [a8 b_1,a32 b_2,a8 b_3,aI b_4,aI b_5,a8 b_6,a32 b_7,a8 b_8,aI b_9,x1]]=some (aB true)) (h34:limf env 34 [.agg [a8 o_1,a8 o_2,a32 o_3,a8 o_4,aI o_5,a8 o_6,a32 o_7,a8 o_8,aI o_9,aI o_10,a8 o_11,a32 o_12,a8 o_13,aI o_14,a8 o_15,a32 o_16,(.isl 1 (rows q) none)],.agg [a8 o_1,a8 o_2,a32 o_3,a8 o_4,aI o_5,a8 o_6,a32 o_7,a8 o_8,aI o_9,aI o_10,a8 o_11,a32 o_12,a8 o_13,aI o_14,a8 o_15,a32 o_16,x2]]=some (aB true)) :
 limf env 6 [.agg [a8 a_1,a32 a_2,a8 a_3,aI a_4,aI a_5,a8 a_6,a32 a_7,a8 a_8,aI a_9,x0],.agg [a8 b_1,a32 b_2,a8 b_3,aI b_4,aI b_5,a8 b_6,a32 b_7,a8 b_8,aI b_9,x1],.agg [a8 o_1,a8 o_2,a32 o_3,a8 o_4,aI o_5,a8 o_6,a32 o_7,a8 o_8,aI o_9,aI o_10,a8 o_11,a32 o_12,a8 o_13,aI o_14,a8 o_15,a32 o_16,x2],aI n]=some (aB true):=by
 have hF1:=fun H r=>aG (H:=H) (f:=24) (by kernel_rfl) false 0 r (args:=[.agg [a8 a_1,a32 a_2,a8 a_3,aI a_4,aI a_5,a8 a_6,a32 a_7,a8 a_8,aI a_9,x0]]) (by simp[hx.r]) (by simp[hx.r]) hT1
 have hF2:=fun H r=>aG (H:=H) (f:=24) (by kernel_rfl) false 0 r (args:=[.agg [a8 b_1,a32 b_2,a8 b_3,aI b_4,aI b_5,a8 b_6,a32 b_7,a8 b_8,aI b_9,x1]]) (by simp[hy.r]) (by simp[hy.r]) hT2
 have fl:=aF l
 clear hT1 hT2
 refine aC (fn:=Try.f6) (c:=ai) rfl (by kernel_rfl) (by kernel_rfl) (by kernel_rfl) (by kernel_rfl) ?_;refine aq _ _ _ _ _ _ fun g=>?_
 simp[ar,au,ae,af,ab, *,aj,hx.r,hy.r,hz.r,s1.r,s2.r,s3.r,s4.r,frzB,eqA,eqFs]
 refine az c_1 c_2 c_3 c_4 c_5 c_6 c_7 c_8 c_9 ([]:List Int) ?_ ?_ (by simp) (fun v0 J0 F0 k0=>?_)
 ·exact bz rfl
 ·exact(.inl ⟨rfl,rfl⟩)
 have c0_p:=k0 ⟨0,16,0,0⟩ _ (fun e=>by cases e) rfl
 have c0_u:=k0 ⟨0,17,0,0⟩ _ (fun e=>by cases e) rfl
 have c0_t:=k0 ⟨0,22,0,0⟩ _ (fun e=>by cases e) rfl
 have c0_v:=k0 ⟨0,35,0,0⟩ _ (fun e=>by cases e) rfl
 have r0_v:=k0 ⟨0,145,0,0⟩ _ (fun e=>by cases e) rfl
 have d0_4:=k0 ⟨0,4,0,0⟩ _ (fun e=>by cases e) rfl
 have d0_5:=k0 ⟨0,5,0,0⟩ _ (fun e=>by cases e) rfl
 have d0_6:=k0 ⟨0,6,0,0⟩ _ (fun e=>by cases e) rfl
 have d0_9:=k0 ⟨0,9,0,0⟩ _ (fun e=>by cases e) rfl
 have d0_10:=k0 ⟨0,10,0,0⟩ _ (fun e=>by cases e) rfl
 have d0_11:=k0 ⟨0,11,0,0⟩ _ (fun e=>by cases e) rfl
 have w0_x:=k0 ⟨0,54,0,0⟩ _ (fun e=>by cases e) rfl
 clear k0
 simp[c0_p]
 refine az p_1 p_2 p_3 p_4 p_5 p_6 p_7 p_8 p_9 ([]:List Int) ?_ ?_ (by simp) (fun v1 J1 F1 k1=>?_)
 ·exact F0
 ·exact(.inl ⟨rfl,rfl⟩)
 have c1_u:=k1 ⟨0,17,0,0⟩ _ (fun e=>by cases e) c0_u
 have c1_t:=k1 ⟨0,22,0,0⟩ _ (fun e=>by cases e) c0_t
 have c1_v:=k1 ⟨0,35,0,0⟩ _ (fun e=>by cases e) c0_v
 have r1_v:=k1 ⟨0,145,0,0⟩ _ (fun e=>by cases e) r0_v
 have d1_4:=k1 ⟨0,4,0,0⟩ _ (fun e=>by cases e) d0_4
 have d1_5:=k1 ⟨0,5,0,0⟩ _ (fun e=>by cases e) d0_5
 have d1_6:=k1 ⟨0,6,0,0⟩ _ (fun e=>by cases e) d0_6
 have d1_9:=k1 ⟨0,9,0,0⟩ _ (fun e=>by cases e) d0_9
 have d1_10:=k1 ⟨0,10,0,0⟩ _ (fun e=>by cases e) d0_10
 have d1_11:=k1 ⟨0,11,0,0⟩ _ (fun e=>by cases e) d0_11
 have w1_x:=k1 ⟨0,54,0,0⟩ _ (fun e=>by cases e) w0_x
 clear k1
 simp[c1_u]
 refine az u_1 u_2 u_3 u_4 u_5 u_6 u_7 u_8 u_9 ([]:List Int) ?_ ?_ (by simp) (fun v2 J2 F2 k2=>?_)
 ·exact F1
 ·exact(.inl ⟨rfl,rfl⟩)
 have c2_t:=k2 ⟨0,22,0,0⟩ _ (fun e=>by cases e) c1_t
 have c2_v:=k2 ⟨0,35,0,0⟩ _ (fun e=>by cases e) c1_v
 have r2_v:=k2 ⟨0,145,0,0⟩ _ (fun e=>by cases e) r1_v
 have d2_4:=k2 ⟨0,4,0,0⟩ _ (fun e=>by cases e) d1_4
 have d2_5:=k2 ⟨0,5,0,0⟩ _ (fun e=>by cases e) d1_5
 have d2_6:=k2 ⟨0,6,0,0⟩ _ (fun e=>by cases e) d1_6
 have d2_9:=k2 ⟨0,9,0,0⟩ _ (fun e=>by cases e) d1_9
 have d2_10:=k2 ⟨0,10,0,0⟩ _ (fun e=>by cases e) d1_10
 have d2_11:=k2 ⟨0,11,0,0⟩ _ (fun e=>by cases e) d1_11
 have w2_x:=k2 ⟨0,54,0,0⟩ _ (fun e=>by cases e) w1_x
 clear k2
 simp[c2_t]
 refine az t_1 t_2 t_3 t_4 t_5 t_6 t_7 t_8 t_9 ([]:List Int) ?_ ?_ (by simp) (fun v3 J3 F3 k3=>?_)
 ·exact F2
 ·exact(.inl ⟨rfl,rfl⟩)
 have c3_v:=k3 ⟨0,35,0,0⟩ _ (fun e=>by cases e) c2_v
 have r3_v:=k3 ⟨0,145,0,0⟩ _ (fun e=>by cases e) r2_v
 have d3_4:=k3 ⟨0,4,0,0⟩ _ (fun e=>by cases e) d2_4
 have d3_5:=k3 ⟨0,5,0,0⟩ _ (fun e=>by cases e) d2_5
 have d3_6:=k3 ⟨0,6,0,0⟩ _ (fun e=>by cases e) d2_6
 have d3_9:=k3 ⟨0,9,0,0⟩ _ (fun e=>by cases e) d2_9
 have d3_10:=k3 ⟨0,10,0,0⟩ _ (fun e=>by cases e) d2_10
 have d3_11:=k3 ⟨0,11,0,0⟩ _ (fun e=>by cases e) d2_11
 have w3_x:=k3 ⟨0,54,0,0⟩ _ (fun e=>by cases e) w2_x
 clear k3
 simp[c3_v]
 refine az a_1 a_2 a_3 a_4 a_5 a_6 a_7 a_8 a_9 l ?_ ?_ (by omega) (fun v4 J4 F4 k4=>?_)
 ·exact F3
 ·exact(.inr ⟨⟨0,145,0,0⟩,none,by simp,r3_v⟩)
 have d4_4:=k4 ⟨0,4,0,0⟩ _ (fun e=>by cases e) d3_4
 have d4_5:=k4 ⟨0,5,0,0⟩ _ (fun e=>by cases e) d3_5
 have d4_6:=k4 ⟨0,6,0,0⟩ _ (fun e=>by cases e) d3_6
 have d4_9:=k4 ⟨0,9,0,0⟩ _ (fun e=>by cases e) d3_9
 have d4_10:=k4 ⟨0,10,0,0⟩ _ (fun e=>by cases e) d3_10
 have d4_11:=k4 ⟨0,11,0,0⟩ _ (fun e=>by cases e) d3_11
 have w4_x:=k4 ⟨0,54,0,0⟩ _ (fun e=>by cases e) w3_x
 clear k4
 simp[d4_4,d4_5,d4_6,d4_9,d4_10,d4_11,w4_x,hx.r,hy.r,hz.r,h30',h30'',h34]
set_option maxHeartbeats 4000000 in
theorem rq(a_1:UInt8)(a_2:UInt32)(a_3:UInt8)(a_4:Int)(a_5:Int)(a_6:UInt8)(a_7:UInt32)(a_8:UInt8)(a_9:Int)(b_1:UInt8)(b_2:UInt32)(b_3:UInt8)(b_4:Int)(b_5:Int)(b_6:UInt8)(b_7:UInt32)(b_8:UInt8)(b_9:Int)(o_1:UInt8)(o_2:UInt8)(o_3:UInt32)(o_4:UInt8)(o_5:Int)(o_6:UInt8)(o_7:UInt32)(o_8:UInt8)(o_9:Int)(o_10:Int)(o_11:UInt8)(o_12:UInt32)(o_13:UInt8)(o_14:Int)(o_15:UInt8)(o_16:UInt32)(c_1:UInt8)(c_2:UInt32)(c_3:UInt8)(c_4:Int)(c_5:Int)(c_6:UInt8)(c_7:UInt32)(c_8:UInt8)(c_9:Int)(p_1:UInt8)(p_2:UInt32)(p_3:UInt8)(p_4:Int)(p_5:Int)(p_6:UInt8)(p_7:UInt32)(p_8:UInt8)(p_9:Int)(u_1:UInt8)(u_2:UInt32)(u_3:UInt8)(u_4:Int)(u_5:Int)(u_6:UInt8)(u_7:UInt32)(u_8:UInt8)(u_9:Int)(t_1:UInt8)(t_2:UInt32)(t_3:UInt8)(t_4:Int)(t_5:Int)(t_6:UInt8)(t_7:UInt32)(t_8:UInt8)(t_9:Int)(i_1:UInt8)(i_2:UInt32)(i_3:UInt8)(i_4:Int)(j_1:UInt8)(j_2:UInt32)(j_3:UInt8)(j_4:Int)(n k e1 e2 e3 e4 e5:Int)(same:Bool){x0 x1 x2 y1 y2 y3 y4:AV}{l q pl ql:List Int}
 (hx:Sl 1 (rows l) x0) (hy:Sl 1 (rows ([]:List Int)) x1) (hz:Sl 1 (rows q) x2)
 (nl:rows l≠[]) (gl : ¬(1000:Int)<l.length)
 (nq:rows q≠[]) (gq : ¬(1000:Int)<q.length)
 (npl:rows pl≠[]) (bpl:pl.length<100000)
 (nql:rows ql≠[]) (bql:ql.length<100000)
 (hT1:limf env 24 [.agg [a8 a_1,a32 a_2,a8 a_3,aI a_4,aI a_5,a8 a_6,a32 a_7,a8 a_8,aI a_9,x0]]=some (.agg [a8 a_1,a32 a_2,a8 a_3,aI a_4,aI a_5,a8 a_6,a32 a_7,a8 a_8,aI a_9,(.fsl 1 (rows l) none)])) (hT2:limf env 24 [.agg [a8 b_1,a32 b_2,a8 b_3,aI b_4,aI b_5,a8 b_6,a32 b_7,a8 b_8,aI b_9,x1]]=some (.agg [a8 b_1,a32 b_2,a8 b_3,aI b_4,aI b_5,a8 b_6,a32 b_7,a8 b_8,aI b_9,aNil])) (hT3:limf env 25 [.agg [a8 o_1,a8 o_2,a32 o_3,a8 o_4,aI o_5,a8 o_6,a32 o_7,a8 o_8,aI o_9,aI o_10,a8 o_11,a32 o_12,a8 o_13,aI o_14,a8 o_15,a32 o_16,x2]]=some (.agg [a8 o_1,a8 o_2,a32 o_3,a8 o_4,aI o_5,a8 o_6,a32 o_7,a8 o_8,aI o_9,aI o_10,a8 o_11,a32 o_12,a8 o_13,aI o_14,a8 o_15,a32 o_16,(.isl 1 (rows q) none)]))
 (h23:limf env 23 [.agg [a8 o_1,a8 o_2,a32 o_3,a8 o_4,aI o_5,a8 o_6,a32 o_7,a8 o_8,aI o_9,aI o_10,a8 o_11,a32 o_12,a8 o_13,aI o_14,a8 o_15,a32 o_16,(.isl 1 (rows q) none)]]=some (.tup [.agg [a8 c_1,a32 c_2,a8 c_3,aI c_4,aI c_5,a8 c_6,a32 c_7,a8 c_8,aI c_9,aNil],aI e1])) (h26:limf env 26 [.agg [a8 o_1,a8 o_2,a32 o_3,a8 o_4,aI o_5,a8 o_6,a32 o_7,a8 o_8,aI o_9,aI o_10,a8 o_11,a32 o_12,a8 o_13,aI o_14,a8 o_15,a32 o_16,x2]]=some (.tup [.agg [a8 c_1,a32 c_2,a8 c_3,aI c_4,aI c_5,a8 c_6,a32 c_7,a8 c_8,aI c_9,y1],aI e1])) (s1:Sl 1 (rows ([]:List Int)) y1)
 (h17:limf env 17 [.agg [a8 a_1,a32 a_2,a8 a_3,aI a_4,aI a_5,a8 a_6,a32 a_7,a8 a_8,aI a_9,(.isl 1 (rows l) none)],aI n]=some (.tup [.agg [a8 p_1,a32 p_2,a8 p_3,aI p_4,aI p_5,a8 p_6,a32 p_7,a8 p_8,aI p_9,(.fsl 1 (rows pl) none)],.agg [a8 u_1,a32 u_2,a8 u_3,aI u_4,aI u_5,a8 u_6,a32 u_7,a8 u_8,aI u_9,(.fsl 1 (rows ql) none)],aI e2])) (h27:limf env 27 [.agg [a8 a_1,a32 a_2,a8 a_3,aI a_4,aI a_5,a8 a_6,a32 a_7,a8 a_8,aI a_9,x0],aI n]=some (.tup [.agg [a8 p_1,a32 p_2,a8 p_3,aI p_4,aI p_5,a8 p_6,a32 p_7,a8 p_8,aI p_9,y2],.agg [a8 u_1,a32 u_2,a8 u_3,aI u_4,aI u_5,a8 u_6,a32 u_7,a8 u_8,aI u_9,y3],aI e2])) (s2:Sl 1 (rows pl) y2) (s3:Sl 1 (rows ql) y3)
 (h16:limf env 16 [.agg [a8 a_1,a32 a_2,a8 a_3,aI a_4,aI a_5,a8 a_6,a32 a_7,a8 a_8,aI a_9,(.isl 1 (rows l) none)],.agg [a8 b_1,a32 b_2,a8 b_3,aI b_4,aI b_5,a8 b_6,a32 b_7,a8 b_8,aI b_9,aNil]]=some (.tup [.agg [a8 t_1,a32 t_2,a8 t_3,aI t_4,aI t_5,a8 t_6,a32 t_7,a8 t_8,aI t_9,aNil],aI e3])) (h28:limf env 28 [.agg [a8 a_1,a32 a_2,a8 a_3,aI a_4,aI a_5,a8 a_6,a32 a_7,a8 a_8,aI a_9,x0],.agg [a8 b_1,a32 b_2,a8 b_3,aI b_4,aI b_5,a8 b_6,a32 b_7,a8 b_8,aI b_9,x1]]=some (.tup [.agg [a8 t_1,a32 t_2,a8 t_3,aI t_4,aI t_5,a8 t_6,a32 t_7,a8 t_8,aI t_9,y4],aI e3])) (s4:Sl 1 (rows ([]:List Int)) y4)
 (h20:limf env 20 [.agg [a8 a_1,a32 a_2,a8 a_3,aI a_4,aI a_5,a8 a_6,a32 a_7,a8 a_8,aI a_9,(.isl 1 (rows l) none)],aI n]=some (.tup [.agg [a8 i_1,a32 i_2,a8 i_3,aI i_4],.agg [a8 j_1,a32 j_2,a8 j_3,aI j_4],.v (.int .i32 k),aI e4])) (h29:limf env 29 [.agg [a8 a_1,a32 a_2,a8 a_3,aI a_4,aI a_5,a8 a_6,a32 a_7,a8 a_8,aI a_9,x0],aI n]=some (.tup [.agg [a8 i_1,a32 i_2,a8 i_3,aI i_4],.agg [a8 j_1,a32 j_2,a8 j_3,aI j_4],.v (.int .i32 k),aI e4]))
 (h31:limf env 31 [.agg [a8 a_1,a32 a_2,a8 a_3,aI a_4,aI a_5,a8 a_6,a32 a_7,a8 a_8,aI a_9,(.isl 1 (rows l) none)]]=some (.agg [a8 a_1,a32 a_2,a8 a_3,aI a_4,aI a_5,a8 a_6,a32 a_7,a8 a_8,aI a_9,(.fsl 1 (rows l) none)]))
 (hS1:limf env 30 [.agg [a8 c_1,a32 c_2,a8 c_3,aI c_4,aI c_5,a8 c_6,a32 c_7,a8 c_8,aI c_9,aNil],.agg [a8 c_1,a32 c_2,a8 c_3,aI c_4,aI c_5,a8 c_6,a32 c_7,a8 c_8,aI c_9,y1]]=some (aB true)) (hS2:limf env 30 [.agg [a8 p_1,a32 p_2,a8 p_3,aI p_4,aI p_5,a8 p_6,a32 p_7,a8 p_8,aI p_9,(.isl 1 (rows pl) none)],.agg [a8 p_1,a32 p_2,a8 p_3,aI p_4,aI p_5,a8 p_6,a32 p_7,a8 p_8,aI p_9,y2]]=some (aB true)) (hS3:limf env 30 [.agg [a8 u_1,a32 u_2,a8 u_3,aI u_4,aI u_5,a8 u_6,a32 u_7,a8 u_8,aI u_9,(.isl 1 (rows ql) none)],.agg [a8 u_1,a32 u_2,a8 u_3,aI u_4,aI u_5,a8 u_6,a32 u_7,a8 u_8,aI u_9,y3]]=some (aB true)) (hS4:limf env 30 [.agg [a8 t_1,a32 t_2,a8 t_3,aI t_4,aI t_5,a8 t_6,a32 t_7,a8 t_8,aI t_9,aNil],.agg [a8 t_1,a32 t_2,a8 t_3,aI t_4,aI t_5,a8 t_6,a32 t_7,a8 t_8,aI t_9,y4]]=some (aB true))
 (h19:limf env 19 [.agg [a8 a_1,a32 a_2,a8 a_3,aI a_4,aI a_5,a8 a_6,a32 a_7,a8 a_8,aI a_9,(.isl 1 (rows l) none)]]=some (aI e5)) (h32:limf env 32 [.agg [a8 a_1,a32 a_2,a8 a_3,aI a_4,aI a_5,a8 a_6,a32 a_7,a8 a_8,aI a_9,x0]]=some (aI e5)) (h18:limf env 18 [.agg [a8 a_1,a32 a_2,a8 a_3,aI a_4,aI a_5,a8 a_6,a32 a_7,a8 a_8,aI a_9,(.isl 1 (rows l) none)],.agg [a8 b_1,a32 b_2,a8 b_3,aI b_4,aI b_5,a8 b_6,a32 b_7,a8 b_8,aI b_9,aNil]]=some (aB same)) (h30:limf env 30 [.agg [a8 a_1,a32 a_2,a8 a_3,aI a_4,aI a_5,a8 a_6,a32 a_7,a8 a_8,aI a_9,x0],.agg [a8 b_1,a32 b_2,a8 b_3,aI b_4,aI b_5,a8 b_6,a32 b_7,a8 b_8,aI b_9,x1]]=some (aB same)) (h18':limf env 18 [.agg [a8 a_1,a32 a_2,a8 a_3,aI a_4,aI a_5,a8 a_6,a32 a_7,a8 a_8,aI a_9,(.isl 1 (rows l) none)],.agg [a8 a_1,a32 a_2,a8 a_3,aI a_4,aI a_5,a8 a_6,a32 a_7,a8 a_8,aI a_9,x0]]=some (aB true)) (h30':limf env 30 [.agg [a8 a_1,a32 a_2,a8 a_3,aI a_4,aI a_5,a8 a_6,a32 a_7,a8 a_8,aI a_9,(.isl 1 (rows l) none)],.agg [a8 a_1,a32 a_2,a8 a_3,aI a_4,aI a_5,a8 a_6,a32 a_7,a8 a_8,aI a_9,x0]]=some (aB true)) (h30'':limf env 30 [.agg [a8 b_1,a32 b_2,a8 b_3,aI b_4,aI b_5,a8 b_6,a32 b_7,a8 b_8,aI b_9,aNil],.agg [a8 b_1,a32 b_2,a8 b_3,aI b_4,aI b_5,a8 b_6,a32 b_7,a8 b_8,aI b_9,x1]]=some (aB true)) (h34:limf env 34 [.agg [a8 o_1,a8 o_2,a32 o_3,a8 o_4,aI o_5,a8 o_6,a32 o_7,a8 o_8,aI o_9,aI o_10,a8 o_11,a32 o_12,a8 o_13,aI o_14,a8 o_15,a32 o_16,(.isl 1 (rows q) none)],.agg [a8 o_1,a8 o_2,a32 o_3,a8 o_4,aI o_5,a8 o_6,a32 o_7,a8 o_8,aI o_9,aI o_10,a8 o_11,a32 o_12,a8 o_13,aI o_14,a8 o_15,a32 o_16,x2]]=some (aB true)) :
 limf env 6 [.agg [a8 a_1,a32 a_2,a8 a_3,aI a_4,aI a_5,a8 a_6,a32 a_7,a8 a_8,aI a_9,x0],.agg [a8 b_1,a32 b_2,a8 b_3,aI b_4,aI b_5,a8 b_6,a32 b_7,a8 b_8,aI b_9,x1],.agg [a8 o_1,a8 o_2,a32 o_3,a8 o_4,aI o_5,a8 o_6,a32 o_7,a8 o_8,aI o_9,aI o_10,a8 o_11,a32 o_12,a8 o_13,aI o_14,a8 o_15,a32 o_16,x2],aI n]=some (aB true):=by
 have hF1:=fun H r=>aG (H:=H) (f:=24) (by kernel_rfl) false 0 r (args:=[.agg [a8 a_1,a32 a_2,a8 a_3,aI a_4,aI a_5,a8 a_6,a32 a_7,a8 a_8,aI a_9,x0]]) (by simp[hx.r]) (by simp[hx.r]) hT1
 have hF2:=fun H r=>aG (H:=H) (f:=24) (by kernel_rfl) false 0 r (args:=[.agg [a8 b_1,a32 b_2,a8 b_3,aI b_4,aI b_5,a8 b_6,a32 b_7,a8 b_8,aI b_9,x1]]) (by simp[hy.r]) (by simp[hy.r]) hT2
 have fpl:=aF pl
 have fql:=aF ql
 have fl:=aF l
 clear hT1 hT2
 refine aC (fn:=Try.f6) (c:=ai) rfl (by kernel_rfl) (by kernel_rfl) (by kernel_rfl) (by kernel_rfl) ?_;refine aq _ _ _ _ _ _ fun g=>?_
 simp[ar,au,ae,af,ab, *,aj,hx.r,hy.r,hz.r,s1.r,s2.r,s3.r,s4.r,frzB,eqA,eqFs]
 refine az c_1 c_2 c_3 c_4 c_5 c_6 c_7 c_8 c_9 ([]:List Int) ?_ ?_ (by simp) (fun v0 J0 F0 k0=>?_)
 ·exact bz rfl
 ·exact(.inl ⟨rfl,rfl⟩)
 have c0_p:=k0 ⟨0,16,0,0⟩ _ (fun e=>by cases e) rfl
 have r0_p:=k0 ⟨0,72,0,0⟩ _ (fun e=>by cases e) rfl
 have c0_u:=k0 ⟨0,17,0,0⟩ _ (fun e=>by cases e) rfl
 have r0_u:=k0 ⟨0,72,0,1⟩ _ (fun e=>by cases e) rfl
 have c0_t:=k0 ⟨0,22,0,0⟩ _ (fun e=>by cases e) rfl
 have c0_v:=k0 ⟨0,35,0,0⟩ _ (fun e=>by cases e) rfl
 have r0_v:=k0 ⟨0,145,0,0⟩ _ (fun e=>by cases e) rfl
 have d0_4:=k0 ⟨0,4,0,0⟩ _ (fun e=>by cases e) rfl
 have d0_5:=k0 ⟨0,5,0,0⟩ _ (fun e=>by cases e) rfl
 have d0_6:=k0 ⟨0,6,0,0⟩ _ (fun e=>by cases e) rfl
 have d0_9:=k0 ⟨0,9,0,0⟩ _ (fun e=>by cases e) rfl
 have d0_10:=k0 ⟨0,10,0,0⟩ _ (fun e=>by cases e) rfl
 have d0_11:=k0 ⟨0,11,0,0⟩ _ (fun e=>by cases e) rfl
 have w0_x:=k0 ⟨0,54,0,0⟩ _ (fun e=>by cases e) rfl
 clear k0
 simp[c0_p]
 refine az p_1 p_2 p_3 p_4 p_5 p_6 p_7 p_8 p_9 pl ?_ ?_ bpl (fun v1 J1 F1 k1=>?_)
 ·exact F0
 ·exact(.inr ⟨⟨0,72,0,0⟩,none,by simp,r0_p⟩)
 have c1_u:=k1 ⟨0,17,0,0⟩ _ (fun e=>by cases e) c0_u
 have r1_u:=k1 ⟨0,72,0,1⟩ _ (fun e=>by cases e) r0_u
 have c1_t:=k1 ⟨0,22,0,0⟩ _ (fun e=>by cases e) c0_t
 have c1_v:=k1 ⟨0,35,0,0⟩ _ (fun e=>by cases e) c0_v
 have r1_v:=k1 ⟨0,145,0,0⟩ _ (fun e=>by cases e) r0_v
 have d1_4:=k1 ⟨0,4,0,0⟩ _ (fun e=>by cases e) d0_4
 have d1_5:=k1 ⟨0,5,0,0⟩ _ (fun e=>by cases e) d0_5
 have d1_6:=k1 ⟨0,6,0,0⟩ _ (fun e=>by cases e) d0_6
 have d1_9:=k1 ⟨0,9,0,0⟩ _ (fun e=>by cases e) d0_9
 have d1_10:=k1 ⟨0,10,0,0⟩ _ (fun e=>by cases e) d0_10
 have d1_11:=k1 ⟨0,11,0,0⟩ _ (fun e=>by cases e) d0_11
 have w1_x:=k1 ⟨0,54,0,0⟩ _ (fun e=>by cases e) w0_x
 clear k1
 simp[c1_u]
 refine az u_1 u_2 u_3 u_4 u_5 u_6 u_7 u_8 u_9 ql ?_ ?_ bql (fun v2 J2 F2 k2=>?_)
 ·exact F1
 ·exact(.inr ⟨⟨0,72,0,1⟩,none,by simp,r1_u⟩)
 have c2_t:=k2 ⟨0,22,0,0⟩ _ (fun e=>by cases e) c1_t
 have c2_v:=k2 ⟨0,35,0,0⟩ _ (fun e=>by cases e) c1_v
 have r2_v:=k2 ⟨0,145,0,0⟩ _ (fun e=>by cases e) r1_v
 have d2_4:=k2 ⟨0,4,0,0⟩ _ (fun e=>by cases e) d1_4
 have d2_5:=k2 ⟨0,5,0,0⟩ _ (fun e=>by cases e) d1_5
 have d2_6:=k2 ⟨0,6,0,0⟩ _ (fun e=>by cases e) d1_6
 have d2_9:=k2 ⟨0,9,0,0⟩ _ (fun e=>by cases e) d1_9
 have d2_10:=k2 ⟨0,10,0,0⟩ _ (fun e=>by cases e) d1_10
 have d2_11:=k2 ⟨0,11,0,0⟩ _ (fun e=>by cases e) d1_11
 have w2_x:=k2 ⟨0,54,0,0⟩ _ (fun e=>by cases e) w1_x
 clear k2
 simp[c2_t]
 refine az t_1 t_2 t_3 t_4 t_5 t_6 t_7 t_8 t_9 ([]:List Int) ?_ ?_ (by simp) (fun v3 J3 F3 k3=>?_)
 ·exact F2
 ·exact(.inl ⟨rfl,rfl⟩)
 have c3_v:=k3 ⟨0,35,0,0⟩ _ (fun e=>by cases e) c2_v
 have r3_v:=k3 ⟨0,145,0,0⟩ _ (fun e=>by cases e) r2_v
 have d3_4:=k3 ⟨0,4,0,0⟩ _ (fun e=>by cases e) d2_4
 have d3_5:=k3 ⟨0,5,0,0⟩ _ (fun e=>by cases e) d2_5
 have d3_6:=k3 ⟨0,6,0,0⟩ _ (fun e=>by cases e) d2_6
 have d3_9:=k3 ⟨0,9,0,0⟩ _ (fun e=>by cases e) d2_9
 have d3_10:=k3 ⟨0,10,0,0⟩ _ (fun e=>by cases e) d2_10
 have d3_11:=k3 ⟨0,11,0,0⟩ _ (fun e=>by cases e) d2_11
 have w3_x:=k3 ⟨0,54,0,0⟩ _ (fun e=>by cases e) w2_x
 clear k3
 simp[c3_v]
 refine az a_1 a_2 a_3 a_4 a_5 a_6 a_7 a_8 a_9 l ?_ ?_ (by omega) (fun v4 J4 F4 k4=>?_)
 ·exact F3
 ·exact(.inr ⟨⟨0,145,0,0⟩,none,by simp,r3_v⟩)
 have d4_4:=k4 ⟨0,4,0,0⟩ _ (fun e=>by cases e) d3_4
 have d4_5:=k4 ⟨0,5,0,0⟩ _ (fun e=>by cases e) d3_5
 have d4_6:=k4 ⟨0,6,0,0⟩ _ (fun e=>by cases e) d3_6
 have d4_9:=k4 ⟨0,9,0,0⟩ _ (fun e=>by cases e) d3_9
 have d4_10:=k4 ⟨0,10,0,0⟩ _ (fun e=>by cases e) d3_10
 have d4_11:=k4 ⟨0,11,0,0⟩ _ (fun e=>by cases e) d3_11
 have w4_x:=k4 ⟨0,54,0,0⟩ _ (fun e=>by cases e) w3_x
 clear k4
 simp[d4_4,d4_5,d4_6,d4_9,d4_10,d4_11,w4_x,hx.r,hy.r,hz.r,h30',h30'',h34]
set_option maxHeartbeats 4000000 in
theorem rp(a_1:UInt8)(a_2:UInt32)(a_3:UInt8)(a_4:Int)(a_5:Int)(a_6:UInt8)(a_7:UInt32)(a_8:UInt8)(a_9:Int)(b_1:UInt8)(b_2:UInt32)(b_3:UInt8)(b_4:Int)(b_5:Int)(b_6:UInt8)(b_7:UInt32)(b_8:UInt8)(b_9:Int)(o_1:UInt8)(o_2:UInt8)(o_3:UInt32)(o_4:UInt8)(o_5:Int)(o_6:UInt8)(o_7:UInt32)(o_8:UInt8)(o_9:Int)(o_10:Int)(o_11:UInt8)(o_12:UInt32)(o_13:UInt8)(o_14:Int)(o_15:UInt8)(o_16:UInt32)(c_1:UInt8)(c_2:UInt32)(c_3:UInt8)(c_4:Int)(c_5:Int)(c_6:UInt8)(c_7:UInt32)(c_8:UInt8)(c_9:Int)(p_1:UInt8)(p_2:UInt32)(p_3:UInt8)(p_4:Int)(p_5:Int)(p_6:UInt8)(p_7:UInt32)(p_8:UInt8)(p_9:Int)(u_1:UInt8)(u_2:UInt32)(u_3:UInt8)(u_4:Int)(u_5:Int)(u_6:UInt8)(u_7:UInt32)(u_8:UInt8)(u_9:Int)(t_1:UInt8)(t_2:UInt32)(t_3:UInt8)(t_4:Int)(t_5:Int)(t_6:UInt8)(t_7:UInt32)(t_8:UInt8)(t_9:Int)(i_1:UInt8)(i_2:UInt32)(i_3:UInt8)(i_4:Int)(j_1:UInt8)(j_2:UInt32)(j_3:UInt8)(j_4:Int)(n k e1 e2 e3 e4 e5:Int)(same:Bool){x0 x1 x2 y1 y2 y3 y4:AV}{l q cl:List Int}
 (hx:Sl 1 (rows l) x0) (hy:Sl 1 (rows ([]:List Int)) x1) (hz:Sl 1 (rows q) x2)
 (nl:rows l≠[]) (gl : ¬(1000:Int)<l.length)
 (nq:rows q≠[]) (gq : ¬(1000:Int)<q.length)
 (ncl:rows cl≠[]) (bcl:cl.length<100000)
 (hT1:limf env 24 [.agg [a8 a_1,a32 a_2,a8 a_3,aI a_4,aI a_5,a8 a_6,a32 a_7,a8 a_8,aI a_9,x0]]=some (.agg [a8 a_1,a32 a_2,a8 a_3,aI a_4,aI a_5,a8 a_6,a32 a_7,a8 a_8,aI a_9,(.fsl 1 (rows l) none)])) (hT2:limf env 24 [.agg [a8 b_1,a32 b_2,a8 b_3,aI b_4,aI b_5,a8 b_6,a32 b_7,a8 b_8,aI b_9,x1]]=some (.agg [a8 b_1,a32 b_2,a8 b_3,aI b_4,aI b_5,a8 b_6,a32 b_7,a8 b_8,aI b_9,aNil])) (hT3:limf env 25 [.agg [a8 o_1,a8 o_2,a32 o_3,a8 o_4,aI o_5,a8 o_6,a32 o_7,a8 o_8,aI o_9,aI o_10,a8 o_11,a32 o_12,a8 o_13,aI o_14,a8 o_15,a32 o_16,x2]]=some (.agg [a8 o_1,a8 o_2,a32 o_3,a8 o_4,aI o_5,a8 o_6,a32 o_7,a8 o_8,aI o_9,aI o_10,a8 o_11,a32 o_12,a8 o_13,aI o_14,a8 o_15,a32 o_16,(.isl 1 (rows q) none)]))
 (h23:limf env 23 [.agg [a8 o_1,a8 o_2,a32 o_3,a8 o_4,aI o_5,a8 o_6,a32 o_7,a8 o_8,aI o_9,aI o_10,a8 o_11,a32 o_12,a8 o_13,aI o_14,a8 o_15,a32 o_16,(.isl 1 (rows q) none)]]=some (.tup [.agg [a8 c_1,a32 c_2,a8 c_3,aI c_4,aI c_5,a8 c_6,a32 c_7,a8 c_8,aI c_9,(.fsl 1 (rows cl) none)],aI e1])) (h26:limf env 26 [.agg [a8 o_1,a8 o_2,a32 o_3,a8 o_4,aI o_5,a8 o_6,a32 o_7,a8 o_8,aI o_9,aI o_10,a8 o_11,a32 o_12,a8 o_13,aI o_14,a8 o_15,a32 o_16,x2]]=some (.tup [.agg [a8 c_1,a32 c_2,a8 c_3,aI c_4,aI c_5,a8 c_6,a32 c_7,a8 c_8,aI c_9,y1],aI e1])) (s1:Sl 1 (rows cl) y1)
 (h17:limf env 17 [.agg [a8 a_1,a32 a_2,a8 a_3,aI a_4,aI a_5,a8 a_6,a32 a_7,a8 a_8,aI a_9,(.isl 1 (rows l) none)],aI n]=some (.tup [.agg [a8 p_1,a32 p_2,a8 p_3,aI p_4,aI p_5,a8 p_6,a32 p_7,a8 p_8,aI p_9,aNil],.agg [a8 u_1,a32 u_2,a8 u_3,aI u_4,aI u_5,a8 u_6,a32 u_7,a8 u_8,aI u_9,aNil],aI e2])) (h27:limf env 27 [.agg [a8 a_1,a32 a_2,a8 a_3,aI a_4,aI a_5,a8 a_6,a32 a_7,a8 a_8,aI a_9,x0],aI n]=some (.tup [.agg [a8 p_1,a32 p_2,a8 p_3,aI p_4,aI p_5,a8 p_6,a32 p_7,a8 p_8,aI p_9,y2],.agg [a8 u_1,a32 u_2,a8 u_3,aI u_4,aI u_5,a8 u_6,a32 u_7,a8 u_8,aI u_9,y3],aI e2])) (s2:Sl 1 (rows ([]:List Int)) y2) (s3:Sl 1 (rows ([]:List Int)) y3)
 (h16:limf env 16 [.agg [a8 a_1,a32 a_2,a8 a_3,aI a_4,aI a_5,a8 a_6,a32 a_7,a8 a_8,aI a_9,(.isl 1 (rows l) none)],.agg [a8 b_1,a32 b_2,a8 b_3,aI b_4,aI b_5,a8 b_6,a32 b_7,a8 b_8,aI b_9,aNil]]=some (.tup [.agg [a8 t_1,a32 t_2,a8 t_3,aI t_4,aI t_5,a8 t_6,a32 t_7,a8 t_8,aI t_9,aNil],aI e3])) (h28:limf env 28 [.agg [a8 a_1,a32 a_2,a8 a_3,aI a_4,aI a_5,a8 a_6,a32 a_7,a8 a_8,aI a_9,x0],.agg [a8 b_1,a32 b_2,a8 b_3,aI b_4,aI b_5,a8 b_6,a32 b_7,a8 b_8,aI b_9,x1]]=some (.tup [.agg [a8 t_1,a32 t_2,a8 t_3,aI t_4,aI t_5,a8 t_6,a32 t_7,a8 t_8,aI t_9,y4],aI e3])) (s4:Sl 1 (rows ([]:List Int)) y4)
 (h20:limf env 20 [.agg [a8 a_1,a32 a_2,a8 a_3,aI a_4,aI a_5,a8 a_6,a32 a_7,a8 a_8,aI a_9,(.isl 1 (rows l) none)],aI n]=some (.tup [.agg [a8 i_1,a32 i_2,a8 i_3,aI i_4],.agg [a8 j_1,a32 j_2,a8 j_3,aI j_4],.v (.int .i32 k),aI e4])) (h29:limf env 29 [.agg [a8 a_1,a32 a_2,a8 a_3,aI a_4,aI a_5,a8 a_6,a32 a_7,a8 a_8,aI a_9,x0],aI n]=some (.tup [.agg [a8 i_1,a32 i_2,a8 i_3,aI i_4],.agg [a8 j_1,a32 j_2,a8 j_3,aI j_4],.v (.int .i32 k),aI e4]))
 (h31:limf env 31 [.agg [a8 a_1,a32 a_2,a8 a_3,aI a_4,aI a_5,a8 a_6,a32 a_7,a8 a_8,aI a_9,(.isl 1 (rows l) none)]]=some (.agg [a8 a_1,a32 a_2,a8 a_3,aI a_4,aI a_5,a8 a_6,a32 a_7,a8 a_8,aI a_9,(.fsl 1 (rows l) none)]))
 (hS1:limf env 30 [.agg [a8 c_1,a32 c_2,a8 c_3,aI c_4,aI c_5,a8 c_6,a32 c_7,a8 c_8,aI c_9,(.isl 1 (rows cl) none)],.agg [a8 c_1,a32 c_2,a8 c_3,aI c_4,aI c_5,a8 c_6,a32 c_7,a8 c_8,aI c_9,y1]]=some (aB true)) (hS2:limf env 30 [.agg [a8 p_1,a32 p_2,a8 p_3,aI p_4,aI p_5,a8 p_6,a32 p_7,a8 p_8,aI p_9,aNil],.agg [a8 p_1,a32 p_2,a8 p_3,aI p_4,aI p_5,a8 p_6,a32 p_7,a8 p_8,aI p_9,y2]]=some (aB true)) (hS3:limf env 30 [.agg [a8 u_1,a32 u_2,a8 u_3,aI u_4,aI u_5,a8 u_6,a32 u_7,a8 u_8,aI u_9,aNil],.agg [a8 u_1,a32 u_2,a8 u_3,aI u_4,aI u_5,a8 u_6,a32 u_7,a8 u_8,aI u_9,y3]]=some (aB true)) (hS4:limf env 30 [.agg [a8 t_1,a32 t_2,a8 t_3,aI t_4,aI t_5,a8 t_6,a32 t_7,a8 t_8,aI t_9,aNil],.agg [a8 t_1,a32 t_2,a8 t_3,aI t_4,aI t_5,a8 t_6,a32 t_7,a8 t_8,aI t_9,y4]]=some (aB true))
 (h19:limf env 19 [.agg [a8 a_1,a32 a_2,a8 a_3,aI a_4,aI a_5,a8 a_6,a32 a_7,a8 a_8,aI a_9,(.isl 1 (rows l) none)]]=some (aI e5)) (h32:limf env 32 [.agg [a8 a_1,a32 a_2,a8 a_3,aI a_4,aI a_5,a8 a_6,a32 a_7,a8 a_8,aI a_9,x0]]=some (aI e5)) (h18:limf env 18 [.agg [a8 a_1,a32 a_2,a8 a_3,aI a_4,aI a_5,a8 a_6,a32 a_7,a8 a_8,aI a_9,(.isl 1 (rows l) none)],.agg [a8 b_1,a32 b_2,a8 b_3,aI b_4,aI b_5,a8 b_6,a32 b_7,a8 b_8,aI b_9,aNil]]=some (aB same)) (h30:limf env 30 [.agg [a8 a_1,a32 a_2,a8 a_3,aI a_4,aI a_5,a8 a_6,a32 a_7,a8 a_8,aI a_9,x0],.agg [a8 b_1,a32 b_2,a8 b_3,aI b_4,aI b_5,a8 b_6,a32 b_7,a8 b_8,aI b_9,x1]]=some (aB same)) (h18':limf env 18 [.agg [a8 a_1,a32 a_2,a8 a_3,aI a_4,aI a_5,a8 a_6,a32 a_7,a8 a_8,aI a_9,(.isl 1 (rows l) none)],.agg [a8 a_1,a32 a_2,a8 a_3,aI a_4,aI a_5,a8 a_6,a32 a_7,a8 a_8,aI a_9,x0]]=some (aB true)) (h30':limf env 30 [.agg [a8 a_1,a32 a_2,a8 a_3,aI a_4,aI a_5,a8 a_6,a32 a_7,a8 a_8,aI a_9,(.isl 1 (rows l) none)],.agg [a8 a_1,a32 a_2,a8 a_3,aI a_4,aI a_5,a8 a_6,a32 a_7,a8 a_8,aI a_9,x0]]=some (aB true)) (h30'':limf env 30 [.agg [a8 b_1,a32 b_2,a8 b_3,aI b_4,aI b_5,a8 b_6,a32 b_7,a8 b_8,aI b_9,aNil],.agg [a8 b_1,a32 b_2,a8 b_3,aI b_4,aI b_5,a8 b_6,a32 b_7,a8 b_8,aI b_9,x1]]=some (aB true)) (h34:limf env 34 [.agg [a8 o_1,a8 o_2,a32 o_3,a8 o_4,aI o_5,a8 o_6,a32 o_7,a8 o_8,aI o_9,aI o_10,a8 o_11,a32 o_12,a8 o_13,aI o_14,a8 o_15,a32 o_16,(.isl 1 (rows q) none)],.agg [a8 o_1,a8 o_2,a32 o_3,a8 o_4,aI o_5,a8 o_6,a32 o_7,a8 o_8,aI o_9,aI o_10,a8 o_11,a32 o_12,a8 o_13,aI o_14,a8 o_15,a32 o_16,x2]]=some (aB true)) :
 limf env 6 [.agg [a8 a_1,a32 a_2,a8 a_3,aI a_4,aI a_5,a8 a_6,a32 a_7,a8 a_8,aI a_9,x0],.agg [a8 b_1,a32 b_2,a8 b_3,aI b_4,aI b_5,a8 b_6,a32 b_7,a8 b_8,aI b_9,x1],.agg [a8 o_1,a8 o_2,a32 o_3,a8 o_4,aI o_5,a8 o_6,a32 o_7,a8 o_8,aI o_9,aI o_10,a8 o_11,a32 o_12,a8 o_13,aI o_14,a8 o_15,a32 o_16,x2],aI n]=some (aB true):=by
 have hF1:=fun H r=>aG (H:=H) (f:=24) (by kernel_rfl) false 0 r (args:=[.agg [a8 a_1,a32 a_2,a8 a_3,aI a_4,aI a_5,a8 a_6,a32 a_7,a8 a_8,aI a_9,x0]]) (by simp[hx.r]) (by simp[hx.r]) hT1
 have hF2:=fun H r=>aG (H:=H) (f:=24) (by kernel_rfl) false 0 r (args:=[.agg [a8 b_1,a32 b_2,a8 b_3,aI b_4,aI b_5,a8 b_6,a32 b_7,a8 b_8,aI b_9,x1]]) (by simp[hy.r]) (by simp[hy.r]) hT2
 have fcl:=aF cl
 have fl:=aF l
 clear hT1 hT2
 refine aC (fn:=Try.f6) (c:=ai) rfl (by kernel_rfl) (by kernel_rfl) (by kernel_rfl) (by kernel_rfl) ?_;refine aq _ _ _ _ _ _ fun g=>?_
 simp[ar,au,ae,af,ab, *,aj,hx.r,hy.r,hz.r,s1.r,s2.r,s3.r,s4.r,frzB,eqA,eqFs]
 refine az c_1 c_2 c_3 c_4 c_5 c_6 c_7 c_8 c_9 cl ?_ ?_ bcl (fun v0 J0 F0 k0=>?_)
 ·exact bz rfl
 ·exact(.inr ⟨⟨0,61,0,0⟩,none,by simp,rfl⟩)
 have c0_p:=k0 ⟨0,16,0,0⟩ _ (fun e=>by cases e) rfl
 have c0_u:=k0 ⟨0,17,0,0⟩ _ (fun e=>by cases e) rfl
 have c0_t:=k0 ⟨0,22,0,0⟩ _ (fun e=>by cases e) rfl
 have c0_v:=k0 ⟨0,35,0,0⟩ _ (fun e=>by cases e) rfl
 have r0_v:=k0 ⟨0,145,0,0⟩ _ (fun e=>by cases e) rfl
 have d0_4:=k0 ⟨0,4,0,0⟩ _ (fun e=>by cases e) rfl
 have d0_5:=k0 ⟨0,5,0,0⟩ _ (fun e=>by cases e) rfl
 have d0_6:=k0 ⟨0,6,0,0⟩ _ (fun e=>by cases e) rfl
 have d0_9:=k0 ⟨0,9,0,0⟩ _ (fun e=>by cases e) rfl
 have d0_10:=k0 ⟨0,10,0,0⟩ _ (fun e=>by cases e) rfl
 have d0_11:=k0 ⟨0,11,0,0⟩ _ (fun e=>by cases e) rfl
 have w0_x:=k0 ⟨0,54,0,0⟩ _ (fun e=>by cases e) rfl
 clear k0
 simp[c0_p]
 refine az p_1 p_2 p_3 p_4 p_5 p_6 p_7 p_8 p_9 ([]:List Int) ?_ ?_ (by simp) (fun v1 J1 F1 k1=>?_)
 ·exact F0
 ·exact(.inl ⟨rfl,rfl⟩)
 have c1_u:=k1 ⟨0,17,0,0⟩ _ (fun e=>by cases e) c0_u
 have c1_t:=k1 ⟨0,22,0,0⟩ _ (fun e=>by cases e) c0_t
 have c1_v:=k1 ⟨0,35,0,0⟩ _ (fun e=>by cases e) c0_v
 have r1_v:=k1 ⟨0,145,0,0⟩ _ (fun e=>by cases e) r0_v
 have d1_4:=k1 ⟨0,4,0,0⟩ _ (fun e=>by cases e) d0_4
 have d1_5:=k1 ⟨0,5,0,0⟩ _ (fun e=>by cases e) d0_5
 have d1_6:=k1 ⟨0,6,0,0⟩ _ (fun e=>by cases e) d0_6
 have d1_9:=k1 ⟨0,9,0,0⟩ _ (fun e=>by cases e) d0_9
 have d1_10:=k1 ⟨0,10,0,0⟩ _ (fun e=>by cases e) d0_10
 have d1_11:=k1 ⟨0,11,0,0⟩ _ (fun e=>by cases e) d0_11
 have w1_x:=k1 ⟨0,54,0,0⟩ _ (fun e=>by cases e) w0_x
 clear k1
 simp[c1_u]
 refine az u_1 u_2 u_3 u_4 u_5 u_6 u_7 u_8 u_9 ([]:List Int) ?_ ?_ (by simp) (fun v2 J2 F2 k2=>?_)
 ·exact F1
 ·exact(.inl ⟨rfl,rfl⟩)
 have c2_t:=k2 ⟨0,22,0,0⟩ _ (fun e=>by cases e) c1_t
 have c2_v:=k2 ⟨0,35,0,0⟩ _ (fun e=>by cases e) c1_v
 have r2_v:=k2 ⟨0,145,0,0⟩ _ (fun e=>by cases e) r1_v
 have d2_4:=k2 ⟨0,4,0,0⟩ _ (fun e=>by cases e) d1_4
 have d2_5:=k2 ⟨0,5,0,0⟩ _ (fun e=>by cases e) d1_5
 have d2_6:=k2 ⟨0,6,0,0⟩ _ (fun e=>by cases e) d1_6
 have d2_9:=k2 ⟨0,9,0,0⟩ _ (fun e=>by cases e) d1_9
 have d2_10:=k2 ⟨0,10,0,0⟩ _ (fun e=>by cases e) d1_10
 have d2_11:=k2 ⟨0,11,0,0⟩ _ (fun e=>by cases e) d1_11
 have w2_x:=k2 ⟨0,54,0,0⟩ _ (fun e=>by cases e) w1_x
 clear k2
 simp[c2_t]
 refine az t_1 t_2 t_3 t_4 t_5 t_6 t_7 t_8 t_9 ([]:List Int) ?_ ?_ (by simp) (fun v3 J3 F3 k3=>?_)
 ·exact F2
 ·exact(.inl ⟨rfl,rfl⟩)
 have c3_v:=k3 ⟨0,35,0,0⟩ _ (fun e=>by cases e) c2_v
 have r3_v:=k3 ⟨0,145,0,0⟩ _ (fun e=>by cases e) r2_v
 have d3_4:=k3 ⟨0,4,0,0⟩ _ (fun e=>by cases e) d2_4
 have d3_5:=k3 ⟨0,5,0,0⟩ _ (fun e=>by cases e) d2_5
 have d3_6:=k3 ⟨0,6,0,0⟩ _ (fun e=>by cases e) d2_6
 have d3_9:=k3 ⟨0,9,0,0⟩ _ (fun e=>by cases e) d2_9
 have d3_10:=k3 ⟨0,10,0,0⟩ _ (fun e=>by cases e) d2_10
 have d3_11:=k3 ⟨0,11,0,0⟩ _ (fun e=>by cases e) d2_11
 have w3_x:=k3 ⟨0,54,0,0⟩ _ (fun e=>by cases e) w2_x
 clear k3
 simp[c3_v]
 refine az a_1 a_2 a_3 a_4 a_5 a_6 a_7 a_8 a_9 l ?_ ?_ (by omega) (fun v4 J4 F4 k4=>?_)
 ·exact F3
 ·exact(.inr ⟨⟨0,145,0,0⟩,none,by simp,r3_v⟩)
 have d4_4:=k4 ⟨0,4,0,0⟩ _ (fun e=>by cases e) d3_4
 have d4_5:=k4 ⟨0,5,0,0⟩ _ (fun e=>by cases e) d3_5
 have d4_6:=k4 ⟨0,6,0,0⟩ _ (fun e=>by cases e) d3_6
 have d4_9:=k4 ⟨0,9,0,0⟩ _ (fun e=>by cases e) d3_9
 have d4_10:=k4 ⟨0,10,0,0⟩ _ (fun e=>by cases e) d3_10
 have d4_11:=k4 ⟨0,11,0,0⟩ _ (fun e=>by cases e) d3_11
 have w4_x:=k4 ⟨0,54,0,0⟩ _ (fun e=>by cases e) w3_x
 clear k4
 simp[d4_4,d4_5,d4_6,d4_9,d4_10,d4_11,w4_x,hx.r,hy.r,hz.r,h30',h30'',h34]
set_option maxHeartbeats 4000000 in
theorem rm(a_1:UInt8)(a_2:UInt32)(a_3:UInt8)(a_4:Int)(a_5:Int)(a_6:UInt8)(a_7:UInt32)(a_8:UInt8)(a_9:Int)(b_1:UInt8)(b_2:UInt32)(b_3:UInt8)(b_4:Int)(b_5:Int)(b_6:UInt8)(b_7:UInt32)(b_8:UInt8)(b_9:Int)(o_1:UInt8)(o_2:UInt8)(o_3:UInt32)(o_4:UInt8)(o_5:Int)(o_6:UInt8)(o_7:UInt32)(o_8:UInt8)(o_9:Int)(o_10:Int)(o_11:UInt8)(o_12:UInt32)(o_13:UInt8)(o_14:Int)(o_15:UInt8)(o_16:UInt32)(c_1:UInt8)(c_2:UInt32)(c_3:UInt8)(c_4:Int)(c_5:Int)(c_6:UInt8)(c_7:UInt32)(c_8:UInt8)(c_9:Int)(p_1:UInt8)(p_2:UInt32)(p_3:UInt8)(p_4:Int)(p_5:Int)(p_6:UInt8)(p_7:UInt32)(p_8:UInt8)(p_9:Int)(u_1:UInt8)(u_2:UInt32)(u_3:UInt8)(u_4:Int)(u_5:Int)(u_6:UInt8)(u_7:UInt32)(u_8:UInt8)(u_9:Int)(t_1:UInt8)(t_2:UInt32)(t_3:UInt8)(t_4:Int)(t_5:Int)(t_6:UInt8)(t_7:UInt32)(t_8:UInt8)(t_9:Int)(i_1:UInt8)(i_2:UInt32)(i_3:UInt8)(i_4:Int)(j_1:UInt8)(j_2:UInt32)(j_3:UInt8)(j_4:Int)(n k e1 e2 e3 e4 e5:Int)(same:Bool){x0 x1 x2 y1 y2 y3 y4:AV}{l q cl pl ql:List Int}
 (hx:Sl 1 (rows l) x0) (hy:Sl 1 (rows ([]:List Int)) x1) (hz:Sl 1 (rows q) x2)
 (nl:rows l≠[]) (gl : ¬(1000:Int)<l.length)
 (nq:rows q≠[]) (gq : ¬(1000:Int)<q.length)
 (ncl:rows cl≠[]) (bcl:cl.length<100000)
 (npl:rows pl≠[]) (bpl:pl.length<100000)
 (nql:rows ql≠[]) (bql:ql.length<100000)
 (hT1:limf env 24 [.agg [a8 a_1,a32 a_2,a8 a_3,aI a_4,aI a_5,a8 a_6,a32 a_7,a8 a_8,aI a_9,x0]]=some (.agg [a8 a_1,a32 a_2,a8 a_3,aI a_4,aI a_5,a8 a_6,a32 a_7,a8 a_8,aI a_9,(.fsl 1 (rows l) none)])) (hT2:limf env 24 [.agg [a8 b_1,a32 b_2,a8 b_3,aI b_4,aI b_5,a8 b_6,a32 b_7,a8 b_8,aI b_9,x1]]=some (.agg [a8 b_1,a32 b_2,a8 b_3,aI b_4,aI b_5,a8 b_6,a32 b_7,a8 b_8,aI b_9,aNil])) (hT3:limf env 25 [.agg [a8 o_1,a8 o_2,a32 o_3,a8 o_4,aI o_5,a8 o_6,a32 o_7,a8 o_8,aI o_9,aI o_10,a8 o_11,a32 o_12,a8 o_13,aI o_14,a8 o_15,a32 o_16,x2]]=some (.agg [a8 o_1,a8 o_2,a32 o_3,a8 o_4,aI o_5,a8 o_6,a32 o_7,a8 o_8,aI o_9,aI o_10,a8 o_11,a32 o_12,a8 o_13,aI o_14,a8 o_15,a32 o_16,(.isl 1 (rows q) none)]))
 (h23:limf env 23 [.agg [a8 o_1,a8 o_2,a32 o_3,a8 o_4,aI o_5,a8 o_6,a32 o_7,a8 o_8,aI o_9,aI o_10,a8 o_11,a32 o_12,a8 o_13,aI o_14,a8 o_15,a32 o_16,(.isl 1 (rows q) none)]]=some (.tup [.agg [a8 c_1,a32 c_2,a8 c_3,aI c_4,aI c_5,a8 c_6,a32 c_7,a8 c_8,aI c_9,(.fsl 1 (rows cl) none)],aI e1])) (h26:limf env 26 [.agg [a8 o_1,a8 o_2,a32 o_3,a8 o_4,aI o_5,a8 o_6,a32 o_7,a8 o_8,aI o_9,aI o_10,a8 o_11,a32 o_12,a8 o_13,aI o_14,a8 o_15,a32 o_16,x2]]=some (.tup [.agg [a8 c_1,a32 c_2,a8 c_3,aI c_4,aI c_5,a8 c_6,a32 c_7,a8 c_8,aI c_9,y1],aI e1])) (s1:Sl 1 (rows cl) y1)
 (h17:limf env 17 [.agg [a8 a_1,a32 a_2,a8 a_3,aI a_4,aI a_5,a8 a_6,a32 a_7,a8 a_8,aI a_9,(.isl 1 (rows l) none)],aI n]=some (.tup [.agg [a8 p_1,a32 p_2,a8 p_3,aI p_4,aI p_5,a8 p_6,a32 p_7,a8 p_8,aI p_9,(.fsl 1 (rows pl) none)],.agg [a8 u_1,a32 u_2,a8 u_3,aI u_4,aI u_5,a8 u_6,a32 u_7,a8 u_8,aI u_9,(.fsl 1 (rows ql) none)],aI e2])) (h27:limf env 27 [.agg [a8 a_1,a32 a_2,a8 a_3,aI a_4,aI a_5,a8 a_6,a32 a_7,a8 a_8,aI a_9,x0],aI n]=some (.tup [.agg [a8 p_1,a32 p_2,a8 p_3,aI p_4,aI p_5,a8 p_6,a32 p_7,a8 p_8,aI p_9,y2],.agg [a8 u_1,a32 u_2,a8 u_3,aI u_4,aI u_5,a8 u_6,a32 u_7,a8 u_8,aI u_9,y3],aI e2])) (s2:Sl 1 (rows pl) y2) (s3:Sl 1 (rows ql) y3)
 (h16:limf env 16 [.agg [a8 a_1,a32 a_2,a8 a_3,aI a_4,aI a_5,a8 a_6,a32 a_7,a8 a_8,aI a_9,(.isl 1 (rows l) none)],.agg [a8 b_1,a32 b_2,a8 b_3,aI b_4,aI b_5,a8 b_6,a32 b_7,a8 b_8,aI b_9,aNil]]=some (.tup [.agg [a8 t_1,a32 t_2,a8 t_3,aI t_4,aI t_5,a8 t_6,a32 t_7,a8 t_8,aI t_9,aNil],aI e3])) (h28:limf env 28 [.agg [a8 a_1,a32 a_2,a8 a_3,aI a_4,aI a_5,a8 a_6,a32 a_7,a8 a_8,aI a_9,x0],.agg [a8 b_1,a32 b_2,a8 b_3,aI b_4,aI b_5,a8 b_6,a32 b_7,a8 b_8,aI b_9,x1]]=some (.tup [.agg [a8 t_1,a32 t_2,a8 t_3,aI t_4,aI t_5,a8 t_6,a32 t_7,a8 t_8,aI t_9,y4],aI e3])) (s4:Sl 1 (rows ([]:List Int)) y4)
 (h20:limf env 20 [.agg [a8 a_1,a32 a_2,a8 a_3,aI a_4,aI a_5,a8 a_6,a32 a_7,a8 a_8,aI a_9,(.isl 1 (rows l) none)],aI n]=some (.tup [.agg [a8 i_1,a32 i_2,a8 i_3,aI i_4],.agg [a8 j_1,a32 j_2,a8 j_3,aI j_4],.v (.int .i32 k),aI e4])) (h29:limf env 29 [.agg [a8 a_1,a32 a_2,a8 a_3,aI a_4,aI a_5,a8 a_6,a32 a_7,a8 a_8,aI a_9,x0],aI n]=some (.tup [.agg [a8 i_1,a32 i_2,a8 i_3,aI i_4],.agg [a8 j_1,a32 j_2,a8 j_3,aI j_4],.v (.int .i32 k),aI e4]))
 (h31:limf env 31 [.agg [a8 a_1,a32 a_2,a8 a_3,aI a_4,aI a_5,a8 a_6,a32 a_7,a8 a_8,aI a_9,(.isl 1 (rows l) none)]]=some (.agg [a8 a_1,a32 a_2,a8 a_3,aI a_4,aI a_5,a8 a_6,a32 a_7,a8 a_8,aI a_9,(.fsl 1 (rows l) none)]))
 (hS1:limf env 30 [.agg [a8 c_1,a32 c_2,a8 c_3,aI c_4,aI c_5,a8 c_6,a32 c_7,a8 c_8,aI c_9,(.isl 1 (rows cl) none)],.agg [a8 c_1,a32 c_2,a8 c_3,aI c_4,aI c_5,a8 c_6,a32 c_7,a8 c_8,aI c_9,y1]]=some (aB true)) (hS2:limf env 30 [.agg [a8 p_1,a32 p_2,a8 p_3,aI p_4,aI p_5,a8 p_6,a32 p_7,a8 p_8,aI p_9,(.isl 1 (rows pl) none)],.agg [a8 p_1,a32 p_2,a8 p_3,aI p_4,aI p_5,a8 p_6,a32 p_7,a8 p_8,aI p_9,y2]]=some (aB true)) (hS3:limf env 30 [.agg [a8 u_1,a32 u_2,a8 u_3,aI u_4,aI u_5,a8 u_6,a32 u_7,a8 u_8,aI u_9,(.isl 1 (rows ql) none)],.agg [a8 u_1,a32 u_2,a8 u_3,aI u_4,aI u_5,a8 u_6,a32 u_7,a8 u_8,aI u_9,y3]]=some (aB true)) (hS4:limf env 30 [.agg [a8 t_1,a32 t_2,a8 t_3,aI t_4,aI t_5,a8 t_6,a32 t_7,a8 t_8,aI t_9,aNil],.agg [a8 t_1,a32 t_2,a8 t_3,aI t_4,aI t_5,a8 t_6,a32 t_7,a8 t_8,aI t_9,y4]]=some (aB true))
 (h19:limf env 19 [.agg [a8 a_1,a32 a_2,a8 a_3,aI a_4,aI a_5,a8 a_6,a32 a_7,a8 a_8,aI a_9,(.isl 1 (rows l) none)]]=some (aI e5)) (h32:limf env 32 [.agg [a8 a_1,a32 a_2,a8 a_3,aI a_4,aI a_5,a8 a_6,a32 a_7,a8 a_8,aI a_9,x0]]=some (aI e5)) (h18:limf env 18 [.agg [a8 a_1,a32 a_2,a8 a_3,aI a_4,aI a_5,a8 a_6,a32 a_7,a8 a_8,aI a_9,(.isl 1 (rows l) none)],.agg [a8 b_1,a32 b_2,a8 b_3,aI b_4,aI b_5,a8 b_6,a32 b_7,a8 b_8,aI b_9,aNil]]=some (aB same)) (h30:limf env 30 [.agg [a8 a_1,a32 a_2,a8 a_3,aI a_4,aI a_5,a8 a_6,a32 a_7,a8 a_8,aI a_9,x0],.agg [a8 b_1,a32 b_2,a8 b_3,aI b_4,aI b_5,a8 b_6,a32 b_7,a8 b_8,aI b_9,x1]]=some (aB same)) (h18':limf env 18 [.agg [a8 a_1,a32 a_2,a8 a_3,aI a_4,aI a_5,a8 a_6,a32 a_7,a8 a_8,aI a_9,(.isl 1 (rows l) none)],.agg [a8 a_1,a32 a_2,a8 a_3,aI a_4,aI a_5,a8 a_6,a32 a_7,a8 a_8,aI a_9,x0]]=some (aB true)) (h30':limf env 30 [.agg [a8 a_1,a32 a_2,a8 a_3,aI a_4,aI a_5,a8 a_6,a32 a_7,a8 a_8,aI a_9,(.isl 1 (rows l) none)],.agg [a8 a_1,a32 a_2,a8 a_3,aI a_4,aI a_5,a8 a_6,a32 a_7,a8 a_8,aI a_9,x0]]=some (aB true)) (h30'':limf env 30 [.agg [a8 b_1,a32 b_2,a8 b_3,aI b_4,aI b_5,a8 b_6,a32 b_7,a8 b_8,aI b_9,aNil],.agg [a8 b_1,a32 b_2,a8 b_3,aI b_4,aI b_5,a8 b_6,a32 b_7,a8 b_8,aI b_9,x1]]=some (aB true)) (h34:limf env 34 [.agg [a8 o_1,a8 o_2,a32 o_3,a8 o_4,aI o_5,a8 o_6,a32 o_7,a8 o_8,aI o_9,aI o_10,a8 o_11,a32 o_12,a8 o_13,aI o_14,a8 o_15,a32 o_16,(.isl 1 (rows q) none)],.agg [a8 o_1,a8 o_2,a32 o_3,a8 o_4,aI o_5,a8 o_6,a32 o_7,a8 o_8,aI o_9,aI o_10,a8 o_11,a32 o_12,a8 o_13,aI o_14,a8 o_15,a32 o_16,x2]]=some (aB true)) :
 limf env 6 [.agg [a8 a_1,a32 a_2,a8 a_3,aI a_4,aI a_5,a8 a_6,a32 a_7,a8 a_8,aI a_9,x0],.agg [a8 b_1,a32 b_2,a8 b_3,aI b_4,aI b_5,a8 b_6,a32 b_7,a8 b_8,aI b_9,x1],.agg [a8 o_1,a8 o_2,a32 o_3,a8 o_4,aI o_5,a8 o_6,a32 o_7,a8 o_8,aI o_9,aI o_10,a8 o_11,a32 o_12,a8 o_13,aI o_14,a8 o_15,a32 o_16,x2],aI n]=some (aB true):=by
 have hF1:=fun H r=>aG (H:=H) (f:=24) (by kernel_rfl) false 0 r (args:=[.agg [a8 a_1,a32 a_2,a8 a_3,aI a_4,aI a_5,a8 a_6,a32 a_7,a8 a_8,aI a_9,x0]]) (by simp[hx.r]) (by simp[hx.r]) hT1
 have hF2:=fun H r=>aG (H:=H) (f:=24) (by kernel_rfl) false 0 r (args:=[.agg [a8 b_1,a32 b_2,a8 b_3,aI b_4,aI b_5,a8 b_6,a32 b_7,a8 b_8,aI b_9,x1]]) (by simp[hy.r]) (by simp[hy.r]) hT2
 have fcl:=aF cl
 have fpl:=aF pl
 have fql:=aF ql
 have fl:=aF l
 clear hT1 hT2
 refine aC (fn:=Try.f6) (c:=ai) rfl (by kernel_rfl) (by kernel_rfl) (by kernel_rfl) (by kernel_rfl) ?_;refine aq _ _ _ _ _ _ fun g=>?_
 simp[ar,au,ae,af,ab, *,aj,hx.r,hy.r,hz.r,s1.r,s2.r,s3.r,s4.r,frzB,eqA,eqFs]
 refine az c_1 c_2 c_3 c_4 c_5 c_6 c_7 c_8 c_9 cl ?_ ?_ bcl (fun v0 J0 F0 k0=>?_)
 ·exact bz rfl
 ·exact(.inr ⟨⟨0,61,0,0⟩,none,by simp,rfl⟩)
 have c0_p:=k0 ⟨0,16,0,0⟩ _ (fun e=>by cases e) rfl
 have r0_p:=k0 ⟨0,72,0,0⟩ _ (fun e=>by cases e) rfl
 have c0_u:=k0 ⟨0,17,0,0⟩ _ (fun e=>by cases e) rfl
 have r0_u:=k0 ⟨0,72,0,1⟩ _ (fun e=>by cases e) rfl
 have c0_t:=k0 ⟨0,22,0,0⟩ _ (fun e=>by cases e) rfl
 have c0_v:=k0 ⟨0,35,0,0⟩ _ (fun e=>by cases e) rfl
 have r0_v:=k0 ⟨0,145,0,0⟩ _ (fun e=>by cases e) rfl
 have d0_4:=k0 ⟨0,4,0,0⟩ _ (fun e=>by cases e) rfl
 have d0_5:=k0 ⟨0,5,0,0⟩ _ (fun e=>by cases e) rfl
 have d0_6:=k0 ⟨0,6,0,0⟩ _ (fun e=>by cases e) rfl
 have d0_9:=k0 ⟨0,9,0,0⟩ _ (fun e=>by cases e) rfl
 have d0_10:=k0 ⟨0,10,0,0⟩ _ (fun e=>by cases e) rfl
 have d0_11:=k0 ⟨0,11,0,0⟩ _ (fun e=>by cases e) rfl
 have w0_x:=k0 ⟨0,54,0,0⟩ _ (fun e=>by cases e) rfl
 clear k0
 simp[c0_p]
 refine az p_1 p_2 p_3 p_4 p_5 p_6 p_7 p_8 p_9 pl ?_ ?_ bpl (fun v1 J1 F1 k1=>?_)
 ·exact F0
 ·exact(.inr ⟨⟨0,72,0,0⟩,none,by simp,r0_p⟩)
 have c1_u:=k1 ⟨0,17,0,0⟩ _ (fun e=>by cases e) c0_u
 have r1_u:=k1 ⟨0,72,0,1⟩ _ (fun e=>by cases e) r0_u
 have c1_t:=k1 ⟨0,22,0,0⟩ _ (fun e=>by cases e) c0_t
 have c1_v:=k1 ⟨0,35,0,0⟩ _ (fun e=>by cases e) c0_v
 have r1_v:=k1 ⟨0,145,0,0⟩ _ (fun e=>by cases e) r0_v
 have d1_4:=k1 ⟨0,4,0,0⟩ _ (fun e=>by cases e) d0_4
 have d1_5:=k1 ⟨0,5,0,0⟩ _ (fun e=>by cases e) d0_5
 have d1_6:=k1 ⟨0,6,0,0⟩ _ (fun e=>by cases e) d0_6
 have d1_9:=k1 ⟨0,9,0,0⟩ _ (fun e=>by cases e) d0_9
 have d1_10:=k1 ⟨0,10,0,0⟩ _ (fun e=>by cases e) d0_10
 have d1_11:=k1 ⟨0,11,0,0⟩ _ (fun e=>by cases e) d0_11
 have w1_x:=k1 ⟨0,54,0,0⟩ _ (fun e=>by cases e) w0_x
 clear k1
 simp[c1_u]
 refine az u_1 u_2 u_3 u_4 u_5 u_6 u_7 u_8 u_9 ql ?_ ?_ bql (fun v2 J2 F2 k2=>?_)
 ·exact F1
 ·exact(.inr ⟨⟨0,72,0,1⟩,none,by simp,r1_u⟩)
 have c2_t:=k2 ⟨0,22,0,0⟩ _ (fun e=>by cases e) c1_t
 have c2_v:=k2 ⟨0,35,0,0⟩ _ (fun e=>by cases e) c1_v
 have r2_v:=k2 ⟨0,145,0,0⟩ _ (fun e=>by cases e) r1_v
 have d2_4:=k2 ⟨0,4,0,0⟩ _ (fun e=>by cases e) d1_4
 have d2_5:=k2 ⟨0,5,0,0⟩ _ (fun e=>by cases e) d1_5
 have d2_6:=k2 ⟨0,6,0,0⟩ _ (fun e=>by cases e) d1_6
 have d2_9:=k2 ⟨0,9,0,0⟩ _ (fun e=>by cases e) d1_9
 have d2_10:=k2 ⟨0,10,0,0⟩ _ (fun e=>by cases e) d1_10
 have d2_11:=k2 ⟨0,11,0,0⟩ _ (fun e=>by cases e) d1_11
 have w2_x:=k2 ⟨0,54,0,0⟩ _ (fun e=>by cases e) w1_x
 clear k2
 simp[c2_t]
 refine az t_1 t_2 t_3 t_4 t_5 t_6 t_7 t_8 t_9 ([]:List Int) ?_ ?_ (by simp) (fun v3 J3 F3 k3=>?_)
 ·exact F2
 ·exact(.inl ⟨rfl,rfl⟩)
 have c3_v:=k3 ⟨0,35,0,0⟩ _ (fun e=>by cases e) c2_v
 have r3_v:=k3 ⟨0,145,0,0⟩ _ (fun e=>by cases e) r2_v
 have d3_4:=k3 ⟨0,4,0,0⟩ _ (fun e=>by cases e) d2_4
 have d3_5:=k3 ⟨0,5,0,0⟩ _ (fun e=>by cases e) d2_5
 have d3_6:=k3 ⟨0,6,0,0⟩ _ (fun e=>by cases e) d2_6
 have d3_9:=k3 ⟨0,9,0,0⟩ _ (fun e=>by cases e) d2_9
 have d3_10:=k3 ⟨0,10,0,0⟩ _ (fun e=>by cases e) d2_10
 have d3_11:=k3 ⟨0,11,0,0⟩ _ (fun e=>by cases e) d2_11
 have w3_x:=k3 ⟨0,54,0,0⟩ _ (fun e=>by cases e) w2_x
 clear k3
 simp[c3_v]
 refine az a_1 a_2 a_3 a_4 a_5 a_6 a_7 a_8 a_9 l ?_ ?_ (by omega) (fun v4 J4 F4 k4=>?_)
 ·exact F3
 ·exact(.inr ⟨⟨0,145,0,0⟩,none,by simp,r3_v⟩)
 have d4_4:=k4 ⟨0,4,0,0⟩ _ (fun e=>by cases e) d3_4
 have d4_5:=k4 ⟨0,5,0,0⟩ _ (fun e=>by cases e) d3_5
 have d4_6:=k4 ⟨0,6,0,0⟩ _ (fun e=>by cases e) d3_6
 have d4_9:=k4 ⟨0,9,0,0⟩ _ (fun e=>by cases e) d3_9
 have d4_10:=k4 ⟨0,10,0,0⟩ _ (fun e=>by cases e) d3_10
 have d4_11:=k4 ⟨0,11,0,0⟩ _ (fun e=>by cases e) d3_11
 have w4_x:=k4 ⟨0,54,0,0⟩ _ (fun e=>by cases e) w3_x
 clear k4
 simp[d4_4,d4_5,d4_6,d4_9,d4_10,d4_11,w4_x,hx.r,hy.r,hz.r,h30',h30'',h34]
set_option maxHeartbeats 4000000 in
theorem rl(a_1:UInt8)(a_2:UInt32)(a_3:UInt8)(a_4:Int)(a_5:Int)(a_6:UInt8)(a_7:UInt32)(a_8:UInt8)(a_9:Int)(b_1:UInt8)(b_2:UInt32)(b_3:UInt8)(b_4:Int)(b_5:Int)(b_6:UInt8)(b_7:UInt32)(b_8:UInt8)(b_9:Int)(o_1:UInt8)(o_2:UInt8)(o_3:UInt32)(o_4:UInt8)(o_5:Int)(o_6:UInt8)(o_7:UInt32)(o_8:UInt8)(o_9:Int)(o_10:Int)(o_11:UInt8)(o_12:UInt32)(o_13:UInt8)(o_14:Int)(o_15:UInt8)(o_16:UInt32)(c_1:UInt8)(c_2:UInt32)(c_3:UInt8)(c_4:Int)(c_5:Int)(c_6:UInt8)(c_7:UInt32)(c_8:UInt8)(c_9:Int)(p_1:UInt8)(p_2:UInt32)(p_3:UInt8)(p_4:Int)(p_5:Int)(p_6:UInt8)(p_7:UInt32)(p_8:UInt8)(p_9:Int)(u_1:UInt8)(u_2:UInt32)(u_3:UInt8)(u_4:Int)(u_5:Int)(u_6:UInt8)(u_7:UInt32)(u_8:UInt8)(u_9:Int)(t_1:UInt8)(t_2:UInt32)(t_3:UInt8)(t_4:Int)(t_5:Int)(t_6:UInt8)(t_7:UInt32)(t_8:UInt8)(t_9:Int)(i_1:UInt8)(i_2:UInt32)(i_3:UInt8)(i_4:Int)(j_1:UInt8)(j_2:UInt32)(j_3:UInt8)(j_4:Int)(n k e1 e2 e3 e4 e5:Int)(same:Bool){x0 x1 x2 y1 y2 y3 y4:AV}{l m:List Int}
 (hx:Sl 1 (rows l) x0) (hy:Sl 1 (rows m) x1) (hz:Sl 1 (rows ([]:List Int)) x2)
 (nl:rows l≠[]) (gl : ¬(1000:Int)<l.length)
 (nm:rows m≠[]) (gm : ¬(1000:Int)<m.length)
 (hT1:limf env 24 [.agg [a8 a_1,a32 a_2,a8 a_3,aI a_4,aI a_5,a8 a_6,a32 a_7,a8 a_8,aI a_9,x0]]=some (.agg [a8 a_1,a32 a_2,a8 a_3,aI a_4,aI a_5,a8 a_6,a32 a_7,a8 a_8,aI a_9,(.fsl 1 (rows l) none)])) (hT2:limf env 24 [.agg [a8 b_1,a32 b_2,a8 b_3,aI b_4,aI b_5,a8 b_6,a32 b_7,a8 b_8,aI b_9,x1]]=some (.agg [a8 b_1,a32 b_2,a8 b_3,aI b_4,aI b_5,a8 b_6,a32 b_7,a8 b_8,aI b_9,(.fsl 1 (rows m) none)])) (hT3:limf env 25 [.agg [a8 o_1,a8 o_2,a32 o_3,a8 o_4,aI o_5,a8 o_6,a32 o_7,a8 o_8,aI o_9,aI o_10,a8 o_11,a32 o_12,a8 o_13,aI o_14,a8 o_15,a32 o_16,x2]]=some (.agg [a8 o_1,a8 o_2,a32 o_3,a8 o_4,aI o_5,a8 o_6,a32 o_7,a8 o_8,aI o_9,aI o_10,a8 o_11,a32 o_12,a8 o_13,aI o_14,a8 o_15,a32 o_16,aNil]))
 (h23:limf env 23 [.agg [a8 o_1,a8 o_2,a32 o_3,a8 o_4,aI o_5,a8 o_6,a32 o_7,a8 o_8,aI o_9,aI o_10,a8 o_11,a32 o_12,a8 o_13,aI o_14,a8 o_15,a32 o_16,aNil]]=some (.tup [.agg [a8 c_1,a32 c_2,a8 c_3,aI c_4,aI c_5,a8 c_6,a32 c_7,a8 c_8,aI c_9,aNil],aI e1])) (h26:limf env 26 [.agg [a8 o_1,a8 o_2,a32 o_3,a8 o_4,aI o_5,a8 o_6,a32 o_7,a8 o_8,aI o_9,aI o_10,a8 o_11,a32 o_12,a8 o_13,aI o_14,a8 o_15,a32 o_16,x2]]=some (.tup [.agg [a8 c_1,a32 c_2,a8 c_3,aI c_4,aI c_5,a8 c_6,a32 c_7,a8 c_8,aI c_9,y1],aI e1])) (s1:Sl 1 (rows ([]:List Int)) y1)
 (h17:limf env 17 [.agg [a8 a_1,a32 a_2,a8 a_3,aI a_4,aI a_5,a8 a_6,a32 a_7,a8 a_8,aI a_9,(.isl 1 (rows l) none)],aI n]=some (.tup [.agg [a8 p_1,a32 p_2,a8 p_3,aI p_4,aI p_5,a8 p_6,a32 p_7,a8 p_8,aI p_9,aNil],.agg [a8 u_1,a32 u_2,a8 u_3,aI u_4,aI u_5,a8 u_6,a32 u_7,a8 u_8,aI u_9,aNil],aI e2])) (h27:limf env 27 [.agg [a8 a_1,a32 a_2,a8 a_3,aI a_4,aI a_5,a8 a_6,a32 a_7,a8 a_8,aI a_9,x0],aI n]=some (.tup [.agg [a8 p_1,a32 p_2,a8 p_3,aI p_4,aI p_5,a8 p_6,a32 p_7,a8 p_8,aI p_9,y2],.agg [a8 u_1,a32 u_2,a8 u_3,aI u_4,aI u_5,a8 u_6,a32 u_7,a8 u_8,aI u_9,y3],aI e2])) (s2:Sl 1 (rows ([]:List Int)) y2) (s3:Sl 1 (rows ([]:List Int)) y3)
 (h16:limf env 16 [.agg [a8 a_1,a32 a_2,a8 a_3,aI a_4,aI a_5,a8 a_6,a32 a_7,a8 a_8,aI a_9,(.isl 1 (rows l) none)],.agg [a8 b_1,a32 b_2,a8 b_3,aI b_4,aI b_5,a8 b_6,a32 b_7,a8 b_8,aI b_9,(.isl 1 (rows m) none)]]=some (.tup [.agg [a8 t_1,a32 t_2,a8 t_3,aI t_4,aI t_5,a8 t_6,a32 t_7,a8 t_8,aI t_9,aNil],aI e3])) (h28:limf env 28 [.agg [a8 a_1,a32 a_2,a8 a_3,aI a_4,aI a_5,a8 a_6,a32 a_7,a8 a_8,aI a_9,x0],.agg [a8 b_1,a32 b_2,a8 b_3,aI b_4,aI b_5,a8 b_6,a32 b_7,a8 b_8,aI b_9,x1]]=some (.tup [.agg [a8 t_1,a32 t_2,a8 t_3,aI t_4,aI t_5,a8 t_6,a32 t_7,a8 t_8,aI t_9,y4],aI e3])) (s4:Sl 1 (rows ([]:List Int)) y4)
 (h20:limf env 20 [.agg [a8 a_1,a32 a_2,a8 a_3,aI a_4,aI a_5,a8 a_6,a32 a_7,a8 a_8,aI a_9,(.isl 1 (rows l) none)],aI n]=some (.tup [.agg [a8 i_1,a32 i_2,a8 i_3,aI i_4],.agg [a8 j_1,a32 j_2,a8 j_3,aI j_4],.v (.int .i32 k),aI e4])) (h29:limf env 29 [.agg [a8 a_1,a32 a_2,a8 a_3,aI a_4,aI a_5,a8 a_6,a32 a_7,a8 a_8,aI a_9,x0],aI n]=some (.tup [.agg [a8 i_1,a32 i_2,a8 i_3,aI i_4],.agg [a8 j_1,a32 j_2,a8 j_3,aI j_4],.v (.int .i32 k),aI e4]))
 (h31:limf env 31 [.agg [a8 a_1,a32 a_2,a8 a_3,aI a_4,aI a_5,a8 a_6,a32 a_7,a8 a_8,aI a_9,(.isl 1 (rows l) none)]]=some (.agg [a8 a_1,a32 a_2,a8 a_3,aI a_4,aI a_5,a8 a_6,a32 a_7,a8 a_8,aI a_9,(.fsl 1 (rows l) none)]))
 (hS1:limf env 30 [.agg [a8 c_1,a32 c_2,a8 c_3,aI c_4,aI c_5,a8 c_6,a32 c_7,a8 c_8,aI c_9,aNil],.agg [a8 c_1,a32 c_2,a8 c_3,aI c_4,aI c_5,a8 c_6,a32 c_7,a8 c_8,aI c_9,y1]]=some (aB true)) (hS2:limf env 30 [.agg [a8 p_1,a32 p_2,a8 p_3,aI p_4,aI p_5,a8 p_6,a32 p_7,a8 p_8,aI p_9,aNil],.agg [a8 p_1,a32 p_2,a8 p_3,aI p_4,aI p_5,a8 p_6,a32 p_7,a8 p_8,aI p_9,y2]]=some (aB true)) (hS3:limf env 30 [.agg [a8 u_1,a32 u_2,a8 u_3,aI u_4,aI u_5,a8 u_6,a32 u_7,a8 u_8,aI u_9,aNil],.agg [a8 u_1,a32 u_2,a8 u_3,aI u_4,aI u_5,a8 u_6,a32 u_7,a8 u_8,aI u_9,y3]]=some (aB true)) (hS4:limf env 30 [.agg [a8 t_1,a32 t_2,a8 t_3,aI t_4,aI t_5,a8 t_6,a32 t_7,a8 t_8,aI t_9,aNil],.agg [a8 t_1,a32 t_2,a8 t_3,aI t_4,aI t_5,a8 t_6,a32 t_7,a8 t_8,aI t_9,y4]]=some (aB true))
 (h19:limf env 19 [.agg [a8 a_1,a32 a_2,a8 a_3,aI a_4,aI a_5,a8 a_6,a32 a_7,a8 a_8,aI a_9,(.isl 1 (rows l) none)]]=some (aI e5)) (h32:limf env 32 [.agg [a8 a_1,a32 a_2,a8 a_3,aI a_4,aI a_5,a8 a_6,a32 a_7,a8 a_8,aI a_9,x0]]=some (aI e5)) (h18:limf env 18 [.agg [a8 a_1,a32 a_2,a8 a_3,aI a_4,aI a_5,a8 a_6,a32 a_7,a8 a_8,aI a_9,(.isl 1 (rows l) none)],.agg [a8 b_1,a32 b_2,a8 b_3,aI b_4,aI b_5,a8 b_6,a32 b_7,a8 b_8,aI b_9,(.isl 1 (rows m) none)]]=some (aB same)) (h30:limf env 30 [.agg [a8 a_1,a32 a_2,a8 a_3,aI a_4,aI a_5,a8 a_6,a32 a_7,a8 a_8,aI a_9,x0],.agg [a8 b_1,a32 b_2,a8 b_3,aI b_4,aI b_5,a8 b_6,a32 b_7,a8 b_8,aI b_9,x1]]=some (aB same)) (h18':limf env 18 [.agg [a8 a_1,a32 a_2,a8 a_3,aI a_4,aI a_5,a8 a_6,a32 a_7,a8 a_8,aI a_9,(.isl 1 (rows l) none)],.agg [a8 a_1,a32 a_2,a8 a_3,aI a_4,aI a_5,a8 a_6,a32 a_7,a8 a_8,aI a_9,x0]]=some (aB true)) (h30':limf env 30 [.agg [a8 a_1,a32 a_2,a8 a_3,aI a_4,aI a_5,a8 a_6,a32 a_7,a8 a_8,aI a_9,(.isl 1 (rows l) none)],.agg [a8 a_1,a32 a_2,a8 a_3,aI a_4,aI a_5,a8 a_6,a32 a_7,a8 a_8,aI a_9,x0]]=some (aB true)) (h30'':limf env 30 [.agg [a8 b_1,a32 b_2,a8 b_3,aI b_4,aI b_5,a8 b_6,a32 b_7,a8 b_8,aI b_9,(.isl 1 (rows m) none)],.agg [a8 b_1,a32 b_2,a8 b_3,aI b_4,aI b_5,a8 b_6,a32 b_7,a8 b_8,aI b_9,x1]]=some (aB true)) (h34:limf env 34 [.agg [a8 o_1,a8 o_2,a32 o_3,a8 o_4,aI o_5,a8 o_6,a32 o_7,a8 o_8,aI o_9,aI o_10,a8 o_11,a32 o_12,a8 o_13,aI o_14,a8 o_15,a32 o_16,aNil],.agg [a8 o_1,a8 o_2,a32 o_3,a8 o_4,aI o_5,a8 o_6,a32 o_7,a8 o_8,aI o_9,aI o_10,a8 o_11,a32 o_12,a8 o_13,aI o_14,a8 o_15,a32 o_16,x2]]=some (aB true)) :
 limf env 6 [.agg [a8 a_1,a32 a_2,a8 a_3,aI a_4,aI a_5,a8 a_6,a32 a_7,a8 a_8,aI a_9,x0],.agg [a8 b_1,a32 b_2,a8 b_3,aI b_4,aI b_5,a8 b_6,a32 b_7,a8 b_8,aI b_9,x1],.agg [a8 o_1,a8 o_2,a32 o_3,a8 o_4,aI o_5,a8 o_6,a32 o_7,a8 o_8,aI o_9,aI o_10,a8 o_11,a32 o_12,a8 o_13,aI o_14,a8 o_15,a32 o_16,x2],aI n]=some (aB true):=by
 have hF1:=fun H r=>aG (H:=H) (f:=24) (by kernel_rfl) false 0 r (args:=[.agg [a8 a_1,a32 a_2,a8 a_3,aI a_4,aI a_5,a8 a_6,a32 a_7,a8 a_8,aI a_9,x0]]) (by simp[hx.r]) (by simp[hx.r]) hT1
 have hF2:=fun H r=>aG (H:=H) (f:=24) (by kernel_rfl) false 0 r (args:=[.agg [a8 b_1,a32 b_2,a8 b_3,aI b_4,aI b_5,a8 b_6,a32 b_7,a8 b_8,aI b_9,x1]]) (by simp[hy.r]) (by simp[hy.r]) hT2
 have fl:=aF l
 clear hT1 hT2
 refine aC (fn:=Try.f6) (c:=ai) rfl (by kernel_rfl) (by kernel_rfl) (by kernel_rfl) (by kernel_rfl) ?_;refine aq _ _ _ _ _ _ fun g=>?_
 simp[ar,au,ae,af,ab, *,aj,hx.r,hy.r,hz.r,s1.r,s2.r,s3.r,s4.r,frzB,eqA,eqFs]
 refine az c_1 c_2 c_3 c_4 c_5 c_6 c_7 c_8 c_9 ([]:List Int) ?_ ?_ (by simp) (fun v0 J0 F0 k0=>?_)
 ·exact bz rfl
 ·exact(.inl ⟨rfl,rfl⟩)
 have c0_p:=k0 ⟨0,16,0,0⟩ _ (fun e=>by cases e) rfl
 have c0_u:=k0 ⟨0,17,0,0⟩ _ (fun e=>by cases e) rfl
 have c0_t:=k0 ⟨0,22,0,0⟩ _ (fun e=>by cases e) rfl
 have c0_v:=k0 ⟨0,35,0,0⟩ _ (fun e=>by cases e) rfl
 have r0_v:=k0 ⟨0,145,0,0⟩ _ (fun e=>by cases e) rfl
 have d0_4:=k0 ⟨0,4,0,0⟩ _ (fun e=>by cases e) rfl
 have d0_5:=k0 ⟨0,5,0,0⟩ _ (fun e=>by cases e) rfl
 have d0_6:=k0 ⟨0,6,0,0⟩ _ (fun e=>by cases e) rfl
 have d0_9:=k0 ⟨0,9,0,0⟩ _ (fun e=>by cases e) rfl
 have d0_10:=k0 ⟨0,10,0,0⟩ _ (fun e=>by cases e) rfl
 have d0_11:=k0 ⟨0,11,0,0⟩ _ (fun e=>by cases e) rfl
 have w0_x:=k0 ⟨0,54,0,0⟩ _ (fun e=>by cases e) rfl
 have w0_y:=k0 ⟨0,56,0,0⟩ _ (fun e=>by cases e) rfl
 clear k0
 simp[c0_p]
 refine az p_1 p_2 p_3 p_4 p_5 p_6 p_7 p_8 p_9 ([]:List Int) ?_ ?_ (by simp) (fun v1 J1 F1 k1=>?_)
 ·exact F0
 ·exact(.inl ⟨rfl,rfl⟩)
 have c1_u:=k1 ⟨0,17,0,0⟩ _ (fun e=>by cases e) c0_u
 have c1_t:=k1 ⟨0,22,0,0⟩ _ (fun e=>by cases e) c0_t
 have c1_v:=k1 ⟨0,35,0,0⟩ _ (fun e=>by cases e) c0_v
 have r1_v:=k1 ⟨0,145,0,0⟩ _ (fun e=>by cases e) r0_v
 have d1_4:=k1 ⟨0,4,0,0⟩ _ (fun e=>by cases e) d0_4
 have d1_5:=k1 ⟨0,5,0,0⟩ _ (fun e=>by cases e) d0_5
 have d1_6:=k1 ⟨0,6,0,0⟩ _ (fun e=>by cases e) d0_6
 have d1_9:=k1 ⟨0,9,0,0⟩ _ (fun e=>by cases e) d0_9
 have d1_10:=k1 ⟨0,10,0,0⟩ _ (fun e=>by cases e) d0_10
 have d1_11:=k1 ⟨0,11,0,0⟩ _ (fun e=>by cases e) d0_11
 have w1_x:=k1 ⟨0,54,0,0⟩ _ (fun e=>by cases e) w0_x
 have w1_y:=k1 ⟨0,56,0,0⟩ _ (fun e=>by cases e) w0_y
 clear k1
 simp[c1_u]
 refine az u_1 u_2 u_3 u_4 u_5 u_6 u_7 u_8 u_9 ([]:List Int) ?_ ?_ (by simp) (fun v2 J2 F2 k2=>?_)
 ·exact F1
 ·exact(.inl ⟨rfl,rfl⟩)
 have c2_t:=k2 ⟨0,22,0,0⟩ _ (fun e=>by cases e) c1_t
 have c2_v:=k2 ⟨0,35,0,0⟩ _ (fun e=>by cases e) c1_v
 have r2_v:=k2 ⟨0,145,0,0⟩ _ (fun e=>by cases e) r1_v
 have d2_4:=k2 ⟨0,4,0,0⟩ _ (fun e=>by cases e) d1_4
 have d2_5:=k2 ⟨0,5,0,0⟩ _ (fun e=>by cases e) d1_5
 have d2_6:=k2 ⟨0,6,0,0⟩ _ (fun e=>by cases e) d1_6
 have d2_9:=k2 ⟨0,9,0,0⟩ _ (fun e=>by cases e) d1_9
 have d2_10:=k2 ⟨0,10,0,0⟩ _ (fun e=>by cases e) d1_10
 have d2_11:=k2 ⟨0,11,0,0⟩ _ (fun e=>by cases e) d1_11
 have w2_x:=k2 ⟨0,54,0,0⟩ _ (fun e=>by cases e) w1_x
 have w2_y:=k2 ⟨0,56,0,0⟩ _ (fun e=>by cases e) w1_y
 clear k2
 simp[c2_t]
 refine az t_1 t_2 t_3 t_4 t_5 t_6 t_7 t_8 t_9 ([]:List Int) ?_ ?_ (by simp) (fun v3 J3 F3 k3=>?_)
 ·exact F2
 ·exact(.inl ⟨rfl,rfl⟩)
 have c3_v:=k3 ⟨0,35,0,0⟩ _ (fun e=>by cases e) c2_v
 have r3_v:=k3 ⟨0,145,0,0⟩ _ (fun e=>by cases e) r2_v
 have d3_4:=k3 ⟨0,4,0,0⟩ _ (fun e=>by cases e) d2_4
 have d3_5:=k3 ⟨0,5,0,0⟩ _ (fun e=>by cases e) d2_5
 have d3_6:=k3 ⟨0,6,0,0⟩ _ (fun e=>by cases e) d2_6
 have d3_9:=k3 ⟨0,9,0,0⟩ _ (fun e=>by cases e) d2_9
 have d3_10:=k3 ⟨0,10,0,0⟩ _ (fun e=>by cases e) d2_10
 have d3_11:=k3 ⟨0,11,0,0⟩ _ (fun e=>by cases e) d2_11
 have w3_x:=k3 ⟨0,54,0,0⟩ _ (fun e=>by cases e) w2_x
 have w3_y:=k3 ⟨0,56,0,0⟩ _ (fun e=>by cases e) w2_y
 clear k3
 simp[c3_v]
 refine az a_1 a_2 a_3 a_4 a_5 a_6 a_7 a_8 a_9 l ?_ ?_ (by omega) (fun v4 J4 F4 k4=>?_)
 ·exact F3
 ·exact(.inr ⟨⟨0,145,0,0⟩,none,by simp,r3_v⟩)
 have d4_4:=k4 ⟨0,4,0,0⟩ _ (fun e=>by cases e) d3_4
 have d4_5:=k4 ⟨0,5,0,0⟩ _ (fun e=>by cases e) d3_5
 have d4_6:=k4 ⟨0,6,0,0⟩ _ (fun e=>by cases e) d3_6
 have d4_9:=k4 ⟨0,9,0,0⟩ _ (fun e=>by cases e) d3_9
 have d4_10:=k4 ⟨0,10,0,0⟩ _ (fun e=>by cases e) d3_10
 have d4_11:=k4 ⟨0,11,0,0⟩ _ (fun e=>by cases e) d3_11
 have w4_x:=k4 ⟨0,54,0,0⟩ _ (fun e=>by cases e) w3_x
 have w4_y:=k4 ⟨0,56,0,0⟩ _ (fun e=>by cases e) w3_y
 clear k4
 simp[d4_4,d4_5,d4_6,d4_9,d4_10,d4_11,w4_x,w4_y,hx.r,hy.r,hz.r,h30',h30'',h34]
set_option maxHeartbeats 4000000 in
theorem rk(a_1:UInt8)(a_2:UInt32)(a_3:UInt8)(a_4:Int)(a_5:Int)(a_6:UInt8)(a_7:UInt32)(a_8:UInt8)(a_9:Int)(b_1:UInt8)(b_2:UInt32)(b_3:UInt8)(b_4:Int)(b_5:Int)(b_6:UInt8)(b_7:UInt32)(b_8:UInt8)(b_9:Int)(o_1:UInt8)(o_2:UInt8)(o_3:UInt32)(o_4:UInt8)(o_5:Int)(o_6:UInt8)(o_7:UInt32)(o_8:UInt8)(o_9:Int)(o_10:Int)(o_11:UInt8)(o_12:UInt32)(o_13:UInt8)(o_14:Int)(o_15:UInt8)(o_16:UInt32)(c_1:UInt8)(c_2:UInt32)(c_3:UInt8)(c_4:Int)(c_5:Int)(c_6:UInt8)(c_7:UInt32)(c_8:UInt8)(c_9:Int)(p_1:UInt8)(p_2:UInt32)(p_3:UInt8)(p_4:Int)(p_5:Int)(p_6:UInt8)(p_7:UInt32)(p_8:UInt8)(p_9:Int)(u_1:UInt8)(u_2:UInt32)(u_3:UInt8)(u_4:Int)(u_5:Int)(u_6:UInt8)(u_7:UInt32)(u_8:UInt8)(u_9:Int)(t_1:UInt8)(t_2:UInt32)(t_3:UInt8)(t_4:Int)(t_5:Int)(t_6:UInt8)(t_7:UInt32)(t_8:UInt8)(t_9:Int)(i_1:UInt8)(i_2:UInt32)(i_3:UInt8)(i_4:Int)(j_1:UInt8)(j_2:UInt32)(j_3:UInt8)(j_4:Int)(n k e1 e2 e3 e4 e5:Int)(same:Bool){x0 x1 x2 y1 y2 y3 y4:AV}{l m tl:List Int}
 (hx:Sl 1 (rows l) x0) (hy:Sl 1 (rows m) x1) (hz:Sl 1 (rows ([]:List Int)) x2)
 (nl:rows l≠[]) (gl : ¬(1000:Int)<l.length)
 (nm:rows m≠[]) (gm : ¬(1000:Int)<m.length)
 (ntl:rows tl≠[]) (btl:tl.length<100000)
 (hT1:limf env 24 [.agg [a8 a_1,a32 a_2,a8 a_3,aI a_4,aI a_5,a8 a_6,a32 a_7,a8 a_8,aI a_9,x0]]=some (.agg [a8 a_1,a32 a_2,a8 a_3,aI a_4,aI a_5,a8 a_6,a32 a_7,a8 a_8,aI a_9,(.fsl 1 (rows l) none)])) (hT2:limf env 24 [.agg [a8 b_1,a32 b_2,a8 b_3,aI b_4,aI b_5,a8 b_6,a32 b_7,a8 b_8,aI b_9,x1]]=some (.agg [a8 b_1,a32 b_2,a8 b_3,aI b_4,aI b_5,a8 b_6,a32 b_7,a8 b_8,aI b_9,(.fsl 1 (rows m) none)])) (hT3:limf env 25 [.agg [a8 o_1,a8 o_2,a32 o_3,a8 o_4,aI o_5,a8 o_6,a32 o_7,a8 o_8,aI o_9,aI o_10,a8 o_11,a32 o_12,a8 o_13,aI o_14,a8 o_15,a32 o_16,x2]]=some (.agg [a8 o_1,a8 o_2,a32 o_3,a8 o_4,aI o_5,a8 o_6,a32 o_7,a8 o_8,aI o_9,aI o_10,a8 o_11,a32 o_12,a8 o_13,aI o_14,a8 o_15,a32 o_16,aNil]))
 (h23:limf env 23 [.agg [a8 o_1,a8 o_2,a32 o_3,a8 o_4,aI o_5,a8 o_6,a32 o_7,a8 o_8,aI o_9,aI o_10,a8 o_11,a32 o_12,a8 o_13,aI o_14,a8 o_15,a32 o_16,aNil]]=some (.tup [.agg [a8 c_1,a32 c_2,a8 c_3,aI c_4,aI c_5,a8 c_6,a32 c_7,a8 c_8,aI c_9,aNil],aI e1])) (h26:limf env 26 [.agg [a8 o_1,a8 o_2,a32 o_3,a8 o_4,aI o_5,a8 o_6,a32 o_7,a8 o_8,aI o_9,aI o_10,a8 o_11,a32 o_12,a8 o_13,aI o_14,a8 o_15,a32 o_16,x2]]=some (.tup [.agg [a8 c_1,a32 c_2,a8 c_3,aI c_4,aI c_5,a8 c_6,a32 c_7,a8 c_8,aI c_9,y1],aI e1])) (s1:Sl 1 (rows ([]:List Int)) y1)
 (h17:limf env 17 [.agg [a8 a_1,a32 a_2,a8 a_3,aI a_4,aI a_5,a8 a_6,a32 a_7,a8 a_8,aI a_9,(.isl 1 (rows l) none)],aI n]=some (.tup [.agg [a8 p_1,a32 p_2,a8 p_3,aI p_4,aI p_5,a8 p_6,a32 p_7,a8 p_8,aI p_9,aNil],.agg [a8 u_1,a32 u_2,a8 u_3,aI u_4,aI u_5,a8 u_6,a32 u_7,a8 u_8,aI u_9,aNil],aI e2])) (h27:limf env 27 [.agg [a8 a_1,a32 a_2,a8 a_3,aI a_4,aI a_5,a8 a_6,a32 a_7,a8 a_8,aI a_9,x0],aI n]=some (.tup [.agg [a8 p_1,a32 p_2,a8 p_3,aI p_4,aI p_5,a8 p_6,a32 p_7,a8 p_8,aI p_9,y2],.agg [a8 u_1,a32 u_2,a8 u_3,aI u_4,aI u_5,a8 u_6,a32 u_7,a8 u_8,aI u_9,y3],aI e2])) (s2:Sl 1 (rows ([]:List Int)) y2) (s3:Sl 1 (rows ([]:List Int)) y3)
 (h16:limf env 16 [.agg [a8 a_1,a32 a_2,a8 a_3,aI a_4,aI a_5,a8 a_6,a32 a_7,a8 a_8,aI a_9,(.isl 1 (rows l) none)],.agg [a8 b_1,a32 b_2,a8 b_3,aI b_4,aI b_5,a8 b_6,a32 b_7,a8 b_8,aI b_9,(.isl 1 (rows m) none)]]=some (.tup [.agg [a8 t_1,a32 t_2,a8 t_3,aI t_4,aI t_5,a8 t_6,a32 t_7,a8 t_8,aI t_9,(.fsl 1 (rows tl) none)],aI e3])) (h28:limf env 28 [.agg [a8 a_1,a32 a_2,a8 a_3,aI a_4,aI a_5,a8 a_6,a32 a_7,a8 a_8,aI a_9,x0],.agg [a8 b_1,a32 b_2,a8 b_3,aI b_4,aI b_5,a8 b_6,a32 b_7,a8 b_8,aI b_9,x1]]=some (.tup [.agg [a8 t_1,a32 t_2,a8 t_3,aI t_4,aI t_5,a8 t_6,a32 t_7,a8 t_8,aI t_9,y4],aI e3])) (s4:Sl 1 (rows tl) y4)
 (h20:limf env 20 [.agg [a8 a_1,a32 a_2,a8 a_3,aI a_4,aI a_5,a8 a_6,a32 a_7,a8 a_8,aI a_9,(.isl 1 (rows l) none)],aI n]=some (.tup [.agg [a8 i_1,a32 i_2,a8 i_3,aI i_4],.agg [a8 j_1,a32 j_2,a8 j_3,aI j_4],.v (.int .i32 k),aI e4])) (h29:limf env 29 [.agg [a8 a_1,a32 a_2,a8 a_3,aI a_4,aI a_5,a8 a_6,a32 a_7,a8 a_8,aI a_9,x0],aI n]=some (.tup [.agg [a8 i_1,a32 i_2,a8 i_3,aI i_4],.agg [a8 j_1,a32 j_2,a8 j_3,aI j_4],.v (.int .i32 k),aI e4]))
 (h31:limf env 31 [.agg [a8 a_1,a32 a_2,a8 a_3,aI a_4,aI a_5,a8 a_6,a32 a_7,a8 a_8,aI a_9,(.isl 1 (rows l) none)]]=some (.agg [a8 a_1,a32 a_2,a8 a_3,aI a_4,aI a_5,a8 a_6,a32 a_7,a8 a_8,aI a_9,(.fsl 1 (rows l) none)]))
 (hS1:limf env 30 [.agg [a8 c_1,a32 c_2,a8 c_3,aI c_4,aI c_5,a8 c_6,a32 c_7,a8 c_8,aI c_9,aNil],.agg [a8 c_1,a32 c_2,a8 c_3,aI c_4,aI c_5,a8 c_6,a32 c_7,a8 c_8,aI c_9,y1]]=some (aB true)) (hS2:limf env 30 [.agg [a8 p_1,a32 p_2,a8 p_3,aI p_4,aI p_5,a8 p_6,a32 p_7,a8 p_8,aI p_9,aNil],.agg [a8 p_1,a32 p_2,a8 p_3,aI p_4,aI p_5,a8 p_6,a32 p_7,a8 p_8,aI p_9,y2]]=some (aB true)) (hS3:limf env 30 [.agg [a8 u_1,a32 u_2,a8 u_3,aI u_4,aI u_5,a8 u_6,a32 u_7,a8 u_8,aI u_9,aNil],.agg [a8 u_1,a32 u_2,a8 u_3,aI u_4,aI u_5,a8 u_6,a32 u_7,a8 u_8,aI u_9,y3]]=some (aB true)) (hS4:limf env 30 [.agg [a8 t_1,a32 t_2,a8 t_3,aI t_4,aI t_5,a8 t_6,a32 t_7,a8 t_8,aI t_9,(.isl 1 (rows tl) none)],.agg [a8 t_1,a32 t_2,a8 t_3,aI t_4,aI t_5,a8 t_6,a32 t_7,a8 t_8,aI t_9,y4]]=some (aB true))
 (h19:limf env 19 [.agg [a8 a_1,a32 a_2,a8 a_3,aI a_4,aI a_5,a8 a_6,a32 a_7,a8 a_8,aI a_9,(.isl 1 (rows l) none)]]=some (aI e5)) (h32:limf env 32 [.agg [a8 a_1,a32 a_2,a8 a_3,aI a_4,aI a_5,a8 a_6,a32 a_7,a8 a_8,aI a_9,x0]]=some (aI e5)) (h18:limf env 18 [.agg [a8 a_1,a32 a_2,a8 a_3,aI a_4,aI a_5,a8 a_6,a32 a_7,a8 a_8,aI a_9,(.isl 1 (rows l) none)],.agg [a8 b_1,a32 b_2,a8 b_3,aI b_4,aI b_5,a8 b_6,a32 b_7,a8 b_8,aI b_9,(.isl 1 (rows m) none)]]=some (aB same)) (h30:limf env 30 [.agg [a8 a_1,a32 a_2,a8 a_3,aI a_4,aI a_5,a8 a_6,a32 a_7,a8 a_8,aI a_9,x0],.agg [a8 b_1,a32 b_2,a8 b_3,aI b_4,aI b_5,a8 b_6,a32 b_7,a8 b_8,aI b_9,x1]]=some (aB same)) (h18':limf env 18 [.agg [a8 a_1,a32 a_2,a8 a_3,aI a_4,aI a_5,a8 a_6,a32 a_7,a8 a_8,aI a_9,(.isl 1 (rows l) none)],.agg [a8 a_1,a32 a_2,a8 a_3,aI a_4,aI a_5,a8 a_6,a32 a_7,a8 a_8,aI a_9,x0]]=some (aB true)) (h30':limf env 30 [.agg [a8 a_1,a32 a_2,a8 a_3,aI a_4,aI a_5,a8 a_6,a32 a_7,a8 a_8,aI a_9,(.isl 1 (rows l) none)],.agg [a8 a_1,a32 a_2,a8 a_3,aI a_4,aI a_5,a8 a_6,a32 a_7,a8 a_8,aI a_9,x0]]=some (aB true)) (h30'':limf env 30 [.agg [a8 b_1,a32 b_2,a8 b_3,aI b_4,aI b_5,a8 b_6,a32 b_7,a8 b_8,aI b_9,(.isl 1 (rows m) none)],.agg [a8 b_1,a32 b_2,a8 b_3,aI b_4,aI b_5,a8 b_6,a32 b_7,a8 b_8,aI b_9,x1]]=some (aB true)) (h34:limf env 34 [.agg [a8 o_1,a8 o_2,a32 o_3,a8 o_4,aI o_5,a8 o_6,a32 o_7,a8 o_8,aI o_9,aI o_10,a8 o_11,a32 o_12,a8 o_13,aI o_14,a8 o_15,a32 o_16,aNil],.agg [a8 o_1,a8 o_2,a32 o_3,a8 o_4,aI o_5,a8 o_6,a32 o_7,a8 o_8,aI o_9,aI o_10,a8 o_11,a32 o_12,a8 o_13,aI o_14,a8 o_15,a32 o_16,x2]]=some (aB true)) :
 limf env 6 [.agg [a8 a_1,a32 a_2,a8 a_3,aI a_4,aI a_5,a8 a_6,a32 a_7,a8 a_8,aI a_9,x0],.agg [a8 b_1,a32 b_2,a8 b_3,aI b_4,aI b_5,a8 b_6,a32 b_7,a8 b_8,aI b_9,x1],.agg [a8 o_1,a8 o_2,a32 o_3,a8 o_4,aI o_5,a8 o_6,a32 o_7,a8 o_8,aI o_9,aI o_10,a8 o_11,a32 o_12,a8 o_13,aI o_14,a8 o_15,a32 o_16,x2],aI n]=some (aB true):=by
 have hF1:=fun H r=>aG (H:=H) (f:=24) (by kernel_rfl) false 0 r (args:=[.agg [a8 a_1,a32 a_2,a8 a_3,aI a_4,aI a_5,a8 a_6,a32 a_7,a8 a_8,aI a_9,x0]]) (by simp[hx.r]) (by simp[hx.r]) hT1
 have hF2:=fun H r=>aG (H:=H) (f:=24) (by kernel_rfl) false 0 r (args:=[.agg [a8 b_1,a32 b_2,a8 b_3,aI b_4,aI b_5,a8 b_6,a32 b_7,a8 b_8,aI b_9,x1]]) (by simp[hy.r]) (by simp[hy.r]) hT2
 have ftl:=aF tl
 have fl:=aF l
 clear hT1 hT2
 refine aC (fn:=Try.f6) (c:=ai) rfl (by kernel_rfl) (by kernel_rfl) (by kernel_rfl) (by kernel_rfl) ?_;refine aq _ _ _ _ _ _ fun g=>?_
 simp[ar,au,ae,af,ab, *,aj,hx.r,hy.r,hz.r,s1.r,s2.r,s3.r,s4.r,frzB,eqA,eqFs]
 refine az c_1 c_2 c_3 c_4 c_5 c_6 c_7 c_8 c_9 ([]:List Int) ?_ ?_ (by simp) (fun v0 J0 F0 k0=>?_)
 ·exact bz rfl
 ·exact(.inl ⟨rfl,rfl⟩)
 have c0_p:=k0 ⟨0,16,0,0⟩ _ (fun e=>by cases e) rfl
 have c0_u:=k0 ⟨0,17,0,0⟩ _ (fun e=>by cases e) rfl
 have c0_t:=k0 ⟨0,22,0,0⟩ _ (fun e=>by cases e) rfl
 have r0_t:=k0 ⟨0,86,0,0⟩ _ (fun e=>by cases e) rfl
 have c0_v:=k0 ⟨0,35,0,0⟩ _ (fun e=>by cases e) rfl
 have r0_v:=k0 ⟨0,145,0,0⟩ _ (fun e=>by cases e) rfl
 have d0_4:=k0 ⟨0,4,0,0⟩ _ (fun e=>by cases e) rfl
 have d0_5:=k0 ⟨0,5,0,0⟩ _ (fun e=>by cases e) rfl
 have d0_6:=k0 ⟨0,6,0,0⟩ _ (fun e=>by cases e) rfl
 have d0_9:=k0 ⟨0,9,0,0⟩ _ (fun e=>by cases e) rfl
 have d0_10:=k0 ⟨0,10,0,0⟩ _ (fun e=>by cases e) rfl
 have d0_11:=k0 ⟨0,11,0,0⟩ _ (fun e=>by cases e) rfl
 have w0_x:=k0 ⟨0,54,0,0⟩ _ (fun e=>by cases e) rfl
 have w0_y:=k0 ⟨0,56,0,0⟩ _ (fun e=>by cases e) rfl
 clear k0
 simp[c0_p]
 refine az p_1 p_2 p_3 p_4 p_5 p_6 p_7 p_8 p_9 ([]:List Int) ?_ ?_ (by simp) (fun v1 J1 F1 k1=>?_)
 ·exact F0
 ·exact(.inl ⟨rfl,rfl⟩)
 have c1_u:=k1 ⟨0,17,0,0⟩ _ (fun e=>by cases e) c0_u
 have c1_t:=k1 ⟨0,22,0,0⟩ _ (fun e=>by cases e) c0_t
 have r1_t:=k1 ⟨0,86,0,0⟩ _ (fun e=>by cases e) r0_t
 have c1_v:=k1 ⟨0,35,0,0⟩ _ (fun e=>by cases e) c0_v
 have r1_v:=k1 ⟨0,145,0,0⟩ _ (fun e=>by cases e) r0_v
 have d1_4:=k1 ⟨0,4,0,0⟩ _ (fun e=>by cases e) d0_4
 have d1_5:=k1 ⟨0,5,0,0⟩ _ (fun e=>by cases e) d0_5
 have d1_6:=k1 ⟨0,6,0,0⟩ _ (fun e=>by cases e) d0_6
 have d1_9:=k1 ⟨0,9,0,0⟩ _ (fun e=>by cases e) d0_9
 have d1_10:=k1 ⟨0,10,0,0⟩ _ (fun e=>by cases e) d0_10
 have d1_11:=k1 ⟨0,11,0,0⟩ _ (fun e=>by cases e) d0_11
 have w1_x:=k1 ⟨0,54,0,0⟩ _ (fun e=>by cases e) w0_x
 have w1_y:=k1 ⟨0,56,0,0⟩ _ (fun e=>by cases e) w0_y
 clear k1
 simp[c1_u]
 refine az u_1 u_2 u_3 u_4 u_5 u_6 u_7 u_8 u_9 ([]:List Int) ?_ ?_ (by simp) (fun v2 J2 F2 k2=>?_)
 ·exact F1
 ·exact(.inl ⟨rfl,rfl⟩)
 have c2_t:=k2 ⟨0,22,0,0⟩ _ (fun e=>by cases e) c1_t
 have r2_t:=k2 ⟨0,86,0,0⟩ _ (fun e=>by cases e) r1_t
 have c2_v:=k2 ⟨0,35,0,0⟩ _ (fun e=>by cases e) c1_v
 have r2_v:=k2 ⟨0,145,0,0⟩ _ (fun e=>by cases e) r1_v
 have d2_4:=k2 ⟨0,4,0,0⟩ _ (fun e=>by cases e) d1_4
 have d2_5:=k2 ⟨0,5,0,0⟩ _ (fun e=>by cases e) d1_5
 have d2_6:=k2 ⟨0,6,0,0⟩ _ (fun e=>by cases e) d1_6
 have d2_9:=k2 ⟨0,9,0,0⟩ _ (fun e=>by cases e) d1_9
 have d2_10:=k2 ⟨0,10,0,0⟩ _ (fun e=>by cases e) d1_10
 have d2_11:=k2 ⟨0,11,0,0⟩ _ (fun e=>by cases e) d1_11
 have w2_x:=k2 ⟨0,54,0,0⟩ _ (fun e=>by cases e) w1_x
 have w2_y:=k2 ⟨0,56,0,0⟩ _ (fun e=>by cases e) w1_y
 clear k2
 simp[c2_t]
 refine az t_1 t_2 t_3 t_4 t_5 t_6 t_7 t_8 t_9 tl ?_ ?_ btl (fun v3 J3 F3 k3=>?_)
 ·exact F2
 ·exact(.inr ⟨⟨0,86,0,0⟩,none,by simp,r2_t⟩)
 have c3_v:=k3 ⟨0,35,0,0⟩ _ (fun e=>by cases e) c2_v
 have r3_v:=k3 ⟨0,145,0,0⟩ _ (fun e=>by cases e) r2_v
 have d3_4:=k3 ⟨0,4,0,0⟩ _ (fun e=>by cases e) d2_4
 have d3_5:=k3 ⟨0,5,0,0⟩ _ (fun e=>by cases e) d2_5
 have d3_6:=k3 ⟨0,6,0,0⟩ _ (fun e=>by cases e) d2_6
 have d3_9:=k3 ⟨0,9,0,0⟩ _ (fun e=>by cases e) d2_9
 have d3_10:=k3 ⟨0,10,0,0⟩ _ (fun e=>by cases e) d2_10
 have d3_11:=k3 ⟨0,11,0,0⟩ _ (fun e=>by cases e) d2_11
 have w3_x:=k3 ⟨0,54,0,0⟩ _ (fun e=>by cases e) w2_x
 have w3_y:=k3 ⟨0,56,0,0⟩ _ (fun e=>by cases e) w2_y
 clear k3
 simp[c3_v]
 refine az a_1 a_2 a_3 a_4 a_5 a_6 a_7 a_8 a_9 l ?_ ?_ (by omega) (fun v4 J4 F4 k4=>?_)
 ·exact F3
 ·exact(.inr ⟨⟨0,145,0,0⟩,none,by simp,r3_v⟩)
 have d4_4:=k4 ⟨0,4,0,0⟩ _ (fun e=>by cases e) d3_4
 have d4_5:=k4 ⟨0,5,0,0⟩ _ (fun e=>by cases e) d3_5
 have d4_6:=k4 ⟨0,6,0,0⟩ _ (fun e=>by cases e) d3_6
 have d4_9:=k4 ⟨0,9,0,0⟩ _ (fun e=>by cases e) d3_9
 have d4_10:=k4 ⟨0,10,0,0⟩ _ (fun e=>by cases e) d3_10
 have d4_11:=k4 ⟨0,11,0,0⟩ _ (fun e=>by cases e) d3_11
 have w4_x:=k4 ⟨0,54,0,0⟩ _ (fun e=>by cases e) w3_x
 have w4_y:=k4 ⟨0,56,0,0⟩ _ (fun e=>by cases e) w3_y
 clear k4
 simp[d4_4,d4_5,d4_6,d4_9,d4_10,d4_11,w4_x,w4_y,hx.r,hy.r,hz.r,h30',h30'',h34]
set_option maxHeartbeats 4000000 in
theorem rj(a_1:UInt8)(a_2:UInt32)(a_3:UInt8)(a_4:Int)(a_5:Int)(a_6:UInt8)(a_7:UInt32)(a_8:UInt8)(a_9:Int)(b_1:UInt8)(b_2:UInt32)(b_3:UInt8)(b_4:Int)(b_5:Int)(b_6:UInt8)(b_7:UInt32)(b_8:UInt8)(b_9:Int)(o_1:UInt8)(o_2:UInt8)(o_3:UInt32)(o_4:UInt8)(o_5:Int)(o_6:UInt8)(o_7:UInt32)(o_8:UInt8)(o_9:Int)(o_10:Int)(o_11:UInt8)(o_12:UInt32)(o_13:UInt8)(o_14:Int)(o_15:UInt8)(o_16:UInt32)(c_1:UInt8)(c_2:UInt32)(c_3:UInt8)(c_4:Int)(c_5:Int)(c_6:UInt8)(c_7:UInt32)(c_8:UInt8)(c_9:Int)(p_1:UInt8)(p_2:UInt32)(p_3:UInt8)(p_4:Int)(p_5:Int)(p_6:UInt8)(p_7:UInt32)(p_8:UInt8)(p_9:Int)(u_1:UInt8)(u_2:UInt32)(u_3:UInt8)(u_4:Int)(u_5:Int)(u_6:UInt8)(u_7:UInt32)(u_8:UInt8)(u_9:Int)(t_1:UInt8)(t_2:UInt32)(t_3:UInt8)(t_4:Int)(t_5:Int)(t_6:UInt8)(t_7:UInt32)(t_8:UInt8)(t_9:Int)(i_1:UInt8)(i_2:UInt32)(i_3:UInt8)(i_4:Int)(j_1:UInt8)(j_2:UInt32)(j_3:UInt8)(j_4:Int)(n k e1 e2 e3 e4 e5:Int)(same:Bool){x0 x1 x2 y1 y2 y3 y4:AV}{l m pl ql:List Int}
 (hx:Sl 1 (rows l) x0) (hy:Sl 1 (rows m) x1) (hz:Sl 1 (rows ([]:List Int)) x2)
 (nl:rows l≠[]) (gl : ¬(1000:Int)<l.length)
 (nm:rows m≠[]) (gm : ¬(1000:Int)<m.length)
 (npl:rows pl≠[]) (bpl:pl.length<100000)
 (nql:rows ql≠[]) (bql:ql.length<100000)
 (hT1:limf env 24 [.agg [a8 a_1,a32 a_2,a8 a_3,aI a_4,aI a_5,a8 a_6,a32 a_7,a8 a_8,aI a_9,x0]]=some (.agg [a8 a_1,a32 a_2,a8 a_3,aI a_4,aI a_5,a8 a_6,a32 a_7,a8 a_8,aI a_9,(.fsl 1 (rows l) none)])) (hT2:limf env 24 [.agg [a8 b_1,a32 b_2,a8 b_3,aI b_4,aI b_5,a8 b_6,a32 b_7,a8 b_8,aI b_9,x1]]=some (.agg [a8 b_1,a32 b_2,a8 b_3,aI b_4,aI b_5,a8 b_6,a32 b_7,a8 b_8,aI b_9,(.fsl 1 (rows m) none)])) (hT3:limf env 25 [.agg [a8 o_1,a8 o_2,a32 o_3,a8 o_4,aI o_5,a8 o_6,a32 o_7,a8 o_8,aI o_9,aI o_10,a8 o_11,a32 o_12,a8 o_13,aI o_14,a8 o_15,a32 o_16,x2]]=some (.agg [a8 o_1,a8 o_2,a32 o_3,a8 o_4,aI o_5,a8 o_6,a32 o_7,a8 o_8,aI o_9,aI o_10,a8 o_11,a32 o_12,a8 o_13,aI o_14,a8 o_15,a32 o_16,aNil]))
 (h23:limf env 23 [.agg [a8 o_1,a8 o_2,a32 o_3,a8 o_4,aI o_5,a8 o_6,a32 o_7,a8 o_8,aI o_9,aI o_10,a8 o_11,a32 o_12,a8 o_13,aI o_14,a8 o_15,a32 o_16,aNil]]=some (.tup [.agg [a8 c_1,a32 c_2,a8 c_3,aI c_4,aI c_5,a8 c_6,a32 c_7,a8 c_8,aI c_9,aNil],aI e1])) (h26:limf env 26 [.agg [a8 o_1,a8 o_2,a32 o_3,a8 o_4,aI o_5,a8 o_6,a32 o_7,a8 o_8,aI o_9,aI o_10,a8 o_11,a32 o_12,a8 o_13,aI o_14,a8 o_15,a32 o_16,x2]]=some (.tup [.agg [a8 c_1,a32 c_2,a8 c_3,aI c_4,aI c_5,a8 c_6,a32 c_7,a8 c_8,aI c_9,y1],aI e1])) (s1:Sl 1 (rows ([]:List Int)) y1)
 (h17:limf env 17 [.agg [a8 a_1,a32 a_2,a8 a_3,aI a_4,aI a_5,a8 a_6,a32 a_7,a8 a_8,aI a_9,(.isl 1 (rows l) none)],aI n]=some (.tup [.agg [a8 p_1,a32 p_2,a8 p_3,aI p_4,aI p_5,a8 p_6,a32 p_7,a8 p_8,aI p_9,(.fsl 1 (rows pl) none)],.agg [a8 u_1,a32 u_2,a8 u_3,aI u_4,aI u_5,a8 u_6,a32 u_7,a8 u_8,aI u_9,(.fsl 1 (rows ql) none)],aI e2])) (h27:limf env 27 [.agg [a8 a_1,a32 a_2,a8 a_3,aI a_4,aI a_5,a8 a_6,a32 a_7,a8 a_8,aI a_9,x0],aI n]=some (.tup [.agg [a8 p_1,a32 p_2,a8 p_3,aI p_4,aI p_5,a8 p_6,a32 p_7,a8 p_8,aI p_9,y2],.agg [a8 u_1,a32 u_2,a8 u_3,aI u_4,aI u_5,a8 u_6,a32 u_7,a8 u_8,aI u_9,y3],aI e2])) (s2:Sl 1 (rows pl) y2) (s3:Sl 1 (rows ql) y3)
 (h16:limf env 16 [.agg [a8 a_1,a32 a_2,a8 a_3,aI a_4,aI a_5,a8 a_6,a32 a_7,a8 a_8,aI a_9,(.isl 1 (rows l) none)],.agg [a8 b_1,a32 b_2,a8 b_3,aI b_4,aI b_5,a8 b_6,a32 b_7,a8 b_8,aI b_9,(.isl 1 (rows m) none)]]=some (.tup [.agg [a8 t_1,a32 t_2,a8 t_3,aI t_4,aI t_5,a8 t_6,a32 t_7,a8 t_8,aI t_9,aNil],aI e3])) (h28:limf env 28 [.agg [a8 a_1,a32 a_2,a8 a_3,aI a_4,aI a_5,a8 a_6,a32 a_7,a8 a_8,aI a_9,x0],.agg [a8 b_1,a32 b_2,a8 b_3,aI b_4,aI b_5,a8 b_6,a32 b_7,a8 b_8,aI b_9,x1]]=some (.tup [.agg [a8 t_1,a32 t_2,a8 t_3,aI t_4,aI t_5,a8 t_6,a32 t_7,a8 t_8,aI t_9,y4],aI e3])) (s4:Sl 1 (rows ([]:List Int)) y4)
 (h20:limf env 20 [.agg [a8 a_1,a32 a_2,a8 a_3,aI a_4,aI a_5,a8 a_6,a32 a_7,a8 a_8,aI a_9,(.isl 1 (rows l) none)],aI n]=some (.tup [.agg [a8 i_1,a32 i_2,a8 i_3,aI i_4],.agg [a8 j_1,a32 j_2,a8 j_3,aI j_4],.v (.int .i32 k),aI e4])) (h29:limf env 29 [.agg [a8 a_1,a32 a_2,a8 a_3,aI a_4,aI a_5,a8 a_6,a32 a_7,a8 a_8,aI a_9,x0],aI n]=some (.tup [.agg [a8 i_1,a32 i_2,a8 i_3,aI i_4],.agg [a8 j_1,a32 j_2,a8 j_3,aI j_4],.v (.int .i32 k),aI e4]))
 (h31:limf env 31 [.agg [a8 a_1,a32 a_2,a8 a_3,aI a_4,aI a_5,a8 a_6,a32 a_7,a8 a_8,aI a_9,(.isl 1 (rows l) none)]]=some (.agg [a8 a_1,a32 a_2,a8 a_3,aI a_4,aI a_5,a8 a_6,a32 a_7,a8 a_8,aI a_9,(.fsl 1 (rows l) none)]))
 (hS1:limf env 30 [.agg [a8 c_1,a32 c_2,a8 c_3,aI c_4,aI c_5,a8 c_6,a32 c_7,a8 c_8,aI c_9,aNil],.agg [a8 c_1,a32 c_2,a8 c_3,aI c_4,aI c_5,a8 c_6,a32 c_7,a8 c_8,aI c_9,y1]]=some (aB true)) (hS2:limf env 30 [.agg [a8 p_1,a32 p_2,a8 p_3,aI p_4,aI p_5,a8 p_6,a32 p_7,a8 p_8,aI p_9,(.isl 1 (rows pl) none)],.agg [a8 p_1,a32 p_2,a8 p_3,aI p_4,aI p_5,a8 p_6,a32 p_7,a8 p_8,aI p_9,y2]]=some (aB true)) (hS3:limf env 30 [.agg [a8 u_1,a32 u_2,a8 u_3,aI u_4,aI u_5,a8 u_6,a32 u_7,a8 u_8,aI u_9,(.isl 1 (rows ql) none)],.agg [a8 u_1,a32 u_2,a8 u_3,aI u_4,aI u_5,a8 u_6,a32 u_7,a8 u_8,aI u_9,y3]]=some (aB true)) (hS4:limf env 30 [.agg [a8 t_1,a32 t_2,a8 t_3,aI t_4,aI t_5,a8 t_6,a32 t_7,a8 t_8,aI t_9,aNil],.agg [a8 t_1,a32 t_2,a8 t_3,aI t_4,aI t_5,a8 t_6,a32 t_7,a8 t_8,aI t_9,y4]]=some (aB true))
 (h19:limf env 19 [.agg [a8 a_1,a32 a_2,a8 a_3,aI a_4,aI a_5,a8 a_6,a32 a_7,a8 a_8,aI a_9,(.isl 1 (rows l) none)]]=some (aI e5)) (h32:limf env 32 [.agg [a8 a_1,a32 a_2,a8 a_3,aI a_4,aI a_5,a8 a_6,a32 a_7,a8 a_8,aI a_9,x0]]=some (aI e5)) (h18:limf env 18 [.agg [a8 a_1,a32 a_2,a8 a_3,aI a_4,aI a_5,a8 a_6,a32 a_7,a8 a_8,aI a_9,(.isl 1 (rows l) none)],.agg [a8 b_1,a32 b_2,a8 b_3,aI b_4,aI b_5,a8 b_6,a32 b_7,a8 b_8,aI b_9,(.isl 1 (rows m) none)]]=some (aB same)) (h30:limf env 30 [.agg [a8 a_1,a32 a_2,a8 a_3,aI a_4,aI a_5,a8 a_6,a32 a_7,a8 a_8,aI a_9,x0],.agg [a8 b_1,a32 b_2,a8 b_3,aI b_4,aI b_5,a8 b_6,a32 b_7,a8 b_8,aI b_9,x1]]=some (aB same)) (h18':limf env 18 [.agg [a8 a_1,a32 a_2,a8 a_3,aI a_4,aI a_5,a8 a_6,a32 a_7,a8 a_8,aI a_9,(.isl 1 (rows l) none)],.agg [a8 a_1,a32 a_2,a8 a_3,aI a_4,aI a_5,a8 a_6,a32 a_7,a8 a_8,aI a_9,x0]]=some (aB true)) (h30':limf env 30 [.agg [a8 a_1,a32 a_2,a8 a_3,aI a_4,aI a_5,a8 a_6,a32 a_7,a8 a_8,aI a_9,(.isl 1 (rows l) none)],.agg [a8 a_1,a32 a_2,a8 a_3,aI a_4,aI a_5,a8 a_6,a32 a_7,a8 a_8,aI a_9,x0]]=some (aB true)) (h30'':limf env 30 [.agg [a8 b_1,a32 b_2,a8 b_3,aI b_4,aI b_5,a8 b_6,a32 b_7,a8 b_8,aI b_9,(.isl 1 (rows m) none)],.agg [a8 b_1,a32 b_2,a8 b_3,aI b_4,aI b_5,a8 b_6,a32 b_7,a8 b_8,aI b_9,x1]]=some (aB true)) (h34:limf env 34 [.agg [a8 o_1,a8 o_2,a32 o_3,a8 o_4,aI o_5,a8 o_6,a32 o_7,a8 o_8,aI o_9,aI o_10,a8 o_11,a32 o_12,a8 o_13,aI o_14,a8 o_15,a32 o_16,aNil],.agg [a8 o_1,a8 o_2,a32 o_3,a8 o_4,aI o_5,a8 o_6,a32 o_7,a8 o_8,aI o_9,aI o_10,a8 o_11,a32 o_12,a8 o_13,aI o_14,a8 o_15,a32 o_16,x2]]=some (aB true)) :
 limf env 6 [.agg [a8 a_1,a32 a_2,a8 a_3,aI a_4,aI a_5,a8 a_6,a32 a_7,a8 a_8,aI a_9,x0],.agg [a8 b_1,a32 b_2,a8 b_3,aI b_4,aI b_5,a8 b_6,a32 b_7,a8 b_8,aI b_9,x1],.agg [a8 o_1,a8 o_2,a32 o_3,a8 o_4,aI o_5,a8 o_6,a32 o_7,a8 o_8,aI o_9,aI o_10,a8 o_11,a32 o_12,a8 o_13,aI o_14,a8 o_15,a32 o_16,x2],aI n]=some (aB true):=by
 have hF1:=fun H r=>aG (H:=H) (f:=24) (by kernel_rfl) false 0 r (args:=[.agg [a8 a_1,a32 a_2,a8 a_3,aI a_4,aI a_5,a8 a_6,a32 a_7,a8 a_8,aI a_9,x0]]) (by simp[hx.r]) (by simp[hx.r]) hT1
 have hF2:=fun H r=>aG (H:=H) (f:=24) (by kernel_rfl) false 0 r (args:=[.agg [a8 b_1,a32 b_2,a8 b_3,aI b_4,aI b_5,a8 b_6,a32 b_7,a8 b_8,aI b_9,x1]]) (by simp[hy.r]) (by simp[hy.r]) hT2
 have fpl:=aF pl
 have fql:=aF ql
 have fl:=aF l
 clear hT1 hT2
 refine aC (fn:=Try.f6) (c:=ai) rfl (by kernel_rfl) (by kernel_rfl) (by kernel_rfl) (by kernel_rfl) ?_;refine aq _ _ _ _ _ _ fun g=>?_
 simp[ar,au,ae,af,ab, *,aj,hx.r,hy.r,hz.r,s1.r,s2.r,s3.r,s4.r,frzB,eqA,eqFs]
 refine az c_1 c_2 c_3 c_4 c_5 c_6 c_7 c_8 c_9 ([]:List Int) ?_ ?_ (by simp) (fun v0 J0 F0 k0=>?_)
 ·exact bz rfl
 ·exact(.inl ⟨rfl,rfl⟩)
 have c0_p:=k0 ⟨0,16,0,0⟩ _ (fun e=>by cases e) rfl
 have r0_p:=k0 ⟨0,72,0,0⟩ _ (fun e=>by cases e) rfl
 have c0_u:=k0 ⟨0,17,0,0⟩ _ (fun e=>by cases e) rfl
 have r0_u:=k0 ⟨0,72,0,1⟩ _ (fun e=>by cases e) rfl
 have c0_t:=k0 ⟨0,22,0,0⟩ _ (fun e=>by cases e) rfl
 have c0_v:=k0 ⟨0,35,0,0⟩ _ (fun e=>by cases e) rfl
 have r0_v:=k0 ⟨0,145,0,0⟩ _ (fun e=>by cases e) rfl
 have d0_4:=k0 ⟨0,4,0,0⟩ _ (fun e=>by cases e) rfl
 have d0_5:=k0 ⟨0,5,0,0⟩ _ (fun e=>by cases e) rfl
 have d0_6:=k0 ⟨0,6,0,0⟩ _ (fun e=>by cases e) rfl
 have d0_9:=k0 ⟨0,9,0,0⟩ _ (fun e=>by cases e) rfl
 have d0_10:=k0 ⟨0,10,0,0⟩ _ (fun e=>by cases e) rfl
 have d0_11:=k0 ⟨0,11,0,0⟩ _ (fun e=>by cases e) rfl
 have w0_x:=k0 ⟨0,54,0,0⟩ _ (fun e=>by cases e) rfl
 have w0_y:=k0 ⟨0,56,0,0⟩ _ (fun e=>by cases e) rfl
 clear k0
 simp[c0_p]
 refine az p_1 p_2 p_3 p_4 p_5 p_6 p_7 p_8 p_9 pl ?_ ?_ bpl (fun v1 J1 F1 k1=>?_)
 ·exact F0
 ·exact(.inr ⟨⟨0,72,0,0⟩,none,by simp,r0_p⟩)
 have c1_u:=k1 ⟨0,17,0,0⟩ _ (fun e=>by cases e) c0_u
 have r1_u:=k1 ⟨0,72,0,1⟩ _ (fun e=>by cases e) r0_u
 have c1_t:=k1 ⟨0,22,0,0⟩ _ (fun e=>by cases e) c0_t
 have c1_v:=k1 ⟨0,35,0,0⟩ _ (fun e=>by cases e) c0_v
 have r1_v:=k1 ⟨0,145,0,0⟩ _ (fun e=>by cases e) r0_v
 have d1_4:=k1 ⟨0,4,0,0⟩ _ (fun e=>by cases e) d0_4
 have d1_5:=k1 ⟨0,5,0,0⟩ _ (fun e=>by cases e) d0_5
 have d1_6:=k1 ⟨0,6,0,0⟩ _ (fun e=>by cases e) d0_6
 have d1_9:=k1 ⟨0,9,0,0⟩ _ (fun e=>by cases e) d0_9
 have d1_10:=k1 ⟨0,10,0,0⟩ _ (fun e=>by cases e) d0_10
 have d1_11:=k1 ⟨0,11,0,0⟩ _ (fun e=>by cases e) d0_11
 have w1_x:=k1 ⟨0,54,0,0⟩ _ (fun e=>by cases e) w0_x
 have w1_y:=k1 ⟨0,56,0,0⟩ _ (fun e=>by cases e) w0_y
 clear k1
 simp[c1_u]
 refine az u_1 u_2 u_3 u_4 u_5 u_6 u_7 u_8 u_9 ql ?_ ?_ bql (fun v2 J2 F2 k2=>?_)
 ·exact F1
 ·exact(.inr ⟨⟨0,72,0,1⟩,none,by simp,r1_u⟩)
 have c2_t:=k2 ⟨0,22,0,0⟩ _ (fun e=>by cases e) c1_t
 have c2_v:=k2 ⟨0,35,0,0⟩ _ (fun e=>by cases e) c1_v
 have r2_v:=k2 ⟨0,145,0,0⟩ _ (fun e=>by cases e) r1_v
 have d2_4:=k2 ⟨0,4,0,0⟩ _ (fun e=>by cases e) d1_4
 have d2_5:=k2 ⟨0,5,0,0⟩ _ (fun e=>by cases e) d1_5
 have d2_6:=k2 ⟨0,6,0,0⟩ _ (fun e=>by cases e) d1_6
 have d2_9:=k2 ⟨0,9,0,0⟩ _ (fun e=>by cases e) d1_9
 have d2_10:=k2 ⟨0,10,0,0⟩ _ (fun e=>by cases e) d1_10
 have d2_11:=k2 ⟨0,11,0,0⟩ _ (fun e=>by cases e) d1_11
 have w2_x:=k2 ⟨0,54,0,0⟩ _ (fun e=>by cases e) w1_x
 have w2_y:=k2 ⟨0,56,0,0⟩ _ (fun e=>by cases e) w1_y
 clear k2
 simp[c2_t]
 refine az t_1 t_2 t_3 t_4 t_5 t_6 t_7 t_8 t_9 ([]:List Int) ?_ ?_ (by simp) (fun v3 J3 F3 k3=>?_)
 ·exact F2
 ·exact(.inl ⟨rfl,rfl⟩)
 have c3_v:=k3 ⟨0,35,0,0⟩ _ (fun e=>by cases e) c2_v
 have r3_v:=k3 ⟨0,145,0,0⟩ _ (fun e=>by cases e) r2_v
 have d3_4:=k3 ⟨0,4,0,0⟩ _ (fun e=>by cases e) d2_4
 have d3_5:=k3 ⟨0,5,0,0⟩ _ (fun e=>by cases e) d2_5
 have d3_6:=k3 ⟨0,6,0,0⟩ _ (fun e=>by cases e) d2_6
 have d3_9:=k3 ⟨0,9,0,0⟩ _ (fun e=>by cases e) d2_9
 have d3_10:=k3 ⟨0,10,0,0⟩ _ (fun e=>by cases e) d2_10
 have d3_11:=k3 ⟨0,11,0,0⟩ _ (fun e=>by cases e) d2_11
 have w3_x:=k3 ⟨0,54,0,0⟩ _ (fun e=>by cases e) w2_x
 have w3_y:=k3 ⟨0,56,0,0⟩ _ (fun e=>by cases e) w2_y
 clear k3
 simp[c3_v]
 refine az a_1 a_2 a_3 a_4 a_5 a_6 a_7 a_8 a_9 l ?_ ?_ (by omega) (fun v4 J4 F4 k4=>?_)
 ·exact F3
 ·exact(.inr ⟨⟨0,145,0,0⟩,none,by simp,r3_v⟩)
 have d4_4:=k4 ⟨0,4,0,0⟩ _ (fun e=>by cases e) d3_4
 have d4_5:=k4 ⟨0,5,0,0⟩ _ (fun e=>by cases e) d3_5
 have d4_6:=k4 ⟨0,6,0,0⟩ _ (fun e=>by cases e) d3_6
 have d4_9:=k4 ⟨0,9,0,0⟩ _ (fun e=>by cases e) d3_9
 have d4_10:=k4 ⟨0,10,0,0⟩ _ (fun e=>by cases e) d3_10
 have d4_11:=k4 ⟨0,11,0,0⟩ _ (fun e=>by cases e) d3_11
 have w4_x:=k4 ⟨0,54,0,0⟩ _ (fun e=>by cases e) w3_x
 have w4_y:=k4 ⟨0,56,0,0⟩ _ (fun e=>by cases e) w3_y
 clear k4
 simp[d4_4,d4_5,d4_6,d4_9,d4_10,d4_11,w4_x,w4_y,hx.r,hy.r,hz.r,h30',h30'',h34]
set_option maxHeartbeats 4000000 in
theorem ri(a_1:UInt8)(a_2:UInt32)(a_3:UInt8)(a_4:Int)(a_5:Int)(a_6:UInt8)(a_7:UInt32)(a_8:UInt8)(a_9:Int)(b_1:UInt8)(b_2:UInt32)(b_3:UInt8)(b_4:Int)(b_5:Int)(b_6:UInt8)(b_7:UInt32)(b_8:UInt8)(b_9:Int)(o_1:UInt8)(o_2:UInt8)(o_3:UInt32)(o_4:UInt8)(o_5:Int)(o_6:UInt8)(o_7:UInt32)(o_8:UInt8)(o_9:Int)(o_10:Int)(o_11:UInt8)(o_12:UInt32)(o_13:UInt8)(o_14:Int)(o_15:UInt8)(o_16:UInt32)(c_1:UInt8)(c_2:UInt32)(c_3:UInt8)(c_4:Int)(c_5:Int)(c_6:UInt8)(c_7:UInt32)(c_8:UInt8)(c_9:Int)(p_1:UInt8)(p_2:UInt32)(p_3:UInt8)(p_4:Int)(p_5:Int)(p_6:UInt8)(p_7:UInt32)(p_8:UInt8)(p_9:Int)(u_1:UInt8)(u_2:UInt32)(u_3:UInt8)(u_4:Int)(u_5:Int)(u_6:UInt8)(u_7:UInt32)(u_8:UInt8)(u_9:Int)(t_1:UInt8)(t_2:UInt32)(t_3:UInt8)(t_4:Int)(t_5:Int)(t_6:UInt8)(t_7:UInt32)(t_8:UInt8)(t_9:Int)(i_1:UInt8)(i_2:UInt32)(i_3:UInt8)(i_4:Int)(j_1:UInt8)(j_2:UInt32)(j_3:UInt8)(j_4:Int)(n k e1 e2 e3 e4 e5:Int)(same:Bool){x0 x1 x2 y1 y2 y3 y4:AV}{l m pl ql tl:List Int}
 (hx:Sl 1 (rows l) x0) (hy:Sl 1 (rows m) x1) (hz:Sl 1 (rows ([]:List Int)) x2)
 (nl:rows l≠[]) (gl : ¬(1000:Int)<l.length)
 (nm:rows m≠[]) (gm : ¬(1000:Int)<m.length)
 (npl:rows pl≠[]) (bpl:pl.length<100000)
 (nql:rows ql≠[]) (bql:ql.length<100000)
 (ntl:rows tl≠[]) (btl:tl.length<100000)
 (hT1:limf env 24 [.agg [a8 a_1,a32 a_2,a8 a_3,aI a_4,aI a_5,a8 a_6,a32 a_7,a8 a_8,aI a_9,x0]]=some (.agg [a8 a_1,a32 a_2,a8 a_3,aI a_4,aI a_5,a8 a_6,a32 a_7,a8 a_8,aI a_9,(.fsl 1 (rows l) none)])) (hT2:limf env 24 [.agg [a8 b_1,a32 b_2,a8 b_3,aI b_4,aI b_5,a8 b_6,a32 b_7,a8 b_8,aI b_9,x1]]=some (.agg [a8 b_1,a32 b_2,a8 b_3,aI b_4,aI b_5,a8 b_6,a32 b_7,a8 b_8,aI b_9,(.fsl 1 (rows m) none)])) (hT3:limf env 25 [.agg [a8 o_1,a8 o_2,a32 o_3,a8 o_4,aI o_5,a8 o_6,a32 o_7,a8 o_8,aI o_9,aI o_10,a8 o_11,a32 o_12,a8 o_13,aI o_14,a8 o_15,a32 o_16,x2]]=some (.agg [a8 o_1,a8 o_2,a32 o_3,a8 o_4,aI o_5,a8 o_6,a32 o_7,a8 o_8,aI o_9,aI o_10,a8 o_11,a32 o_12,a8 o_13,aI o_14,a8 o_15,a32 o_16,aNil]))
 (h23:limf env 23 [.agg [a8 o_1,a8 o_2,a32 o_3,a8 o_4,aI o_5,a8 o_6,a32 o_7,a8 o_8,aI o_9,aI o_10,a8 o_11,a32 o_12,a8 o_13,aI o_14,a8 o_15,a32 o_16,aNil]]=some (.tup [.agg [a8 c_1,a32 c_2,a8 c_3,aI c_4,aI c_5,a8 c_6,a32 c_7,a8 c_8,aI c_9,aNil],aI e1])) (h26:limf env 26 [.agg [a8 o_1,a8 o_2,a32 o_3,a8 o_4,aI o_5,a8 o_6,a32 o_7,a8 o_8,aI o_9,aI o_10,a8 o_11,a32 o_12,a8 o_13,aI o_14,a8 o_15,a32 o_16,x2]]=some (.tup [.agg [a8 c_1,a32 c_2,a8 c_3,aI c_4,aI c_5,a8 c_6,a32 c_7,a8 c_8,aI c_9,y1],aI e1])) (s1:Sl 1 (rows ([]:List Int)) y1)
 (h17:limf env 17 [.agg [a8 a_1,a32 a_2,a8 a_3,aI a_4,aI a_5,a8 a_6,a32 a_7,a8 a_8,aI a_9,(.isl 1 (rows l) none)],aI n]=some (.tup [.agg [a8 p_1,a32 p_2,a8 p_3,aI p_4,aI p_5,a8 p_6,a32 p_7,a8 p_8,aI p_9,(.fsl 1 (rows pl) none)],.agg [a8 u_1,a32 u_2,a8 u_3,aI u_4,aI u_5,a8 u_6,a32 u_7,a8 u_8,aI u_9,(.fsl 1 (rows ql) none)],aI e2])) (h27:limf env 27 [.agg [a8 a_1,a32 a_2,a8 a_3,aI a_4,aI a_5,a8 a_6,a32 a_7,a8 a_8,aI a_9,x0],aI n]=some (.tup [.agg [a8 p_1,a32 p_2,a8 p_3,aI p_4,aI p_5,a8 p_6,a32 p_7,a8 p_8,aI p_9,y2],.agg [a8 u_1,a32 u_2,a8 u_3,aI u_4,aI u_5,a8 u_6,a32 u_7,a8 u_8,aI u_9,y3],aI e2])) (s2:Sl 1 (rows pl) y2) (s3:Sl 1 (rows ql) y3)
 (h16:limf env 16 [.agg [a8 a_1,a32 a_2,a8 a_3,aI a_4,aI a_5,a8 a_6,a32 a_7,a8 a_8,aI a_9,(.isl 1 (rows l) none)],.agg [a8 b_1,a32 b_2,a8 b_3,aI b_4,aI b_5,a8 b_6,a32 b_7,a8 b_8,aI b_9,(.isl 1 (rows m) none)]]=some (.tup [.agg [a8 t_1,a32 t_2,a8 t_3,aI t_4,aI t_5,a8 t_6,a32 t_7,a8 t_8,aI t_9,(.fsl 1 (rows tl) none)],aI e3])) (h28:limf env 28 [.agg [a8 a_1,a32 a_2,a8 a_3,aI a_4,aI a_5,a8 a_6,a32 a_7,a8 a_8,aI a_9,x0],.agg [a8 b_1,a32 b_2,a8 b_3,aI b_4,aI b_5,a8 b_6,a32 b_7,a8 b_8,aI b_9,x1]]=some (.tup [.agg [a8 t_1,a32 t_2,a8 t_3,aI t_4,aI t_5,a8 t_6,a32 t_7,a8 t_8,aI t_9,y4],aI e3])) (s4:Sl 1 (rows tl) y4)
 (h20:limf env 20 [.agg [a8 a_1,a32 a_2,a8 a_3,aI a_4,aI a_5,a8 a_6,a32 a_7,a8 a_8,aI a_9,(.isl 1 (rows l) none)],aI n]=some (.tup [.agg [a8 i_1,a32 i_2,a8 i_3,aI i_4],.agg [a8 j_1,a32 j_2,a8 j_3,aI j_4],.v (.int .i32 k),aI e4])) (h29:limf env 29 [.agg [a8 a_1,a32 a_2,a8 a_3,aI a_4,aI a_5,a8 a_6,a32 a_7,a8 a_8,aI a_9,x0],aI n]=some (.tup [.agg [a8 i_1,a32 i_2,a8 i_3,aI i_4],.agg [a8 j_1,a32 j_2,a8 j_3,aI j_4],.v (.int .i32 k),aI e4]))
 (h31:limf env 31 [.agg [a8 a_1,a32 a_2,a8 a_3,aI a_4,aI a_5,a8 a_6,a32 a_7,a8 a_8,aI a_9,(.isl 1 (rows l) none)]]=some (.agg [a8 a_1,a32 a_2,a8 a_3,aI a_4,aI a_5,a8 a_6,a32 a_7,a8 a_8,aI a_9,(.fsl 1 (rows l) none)]))
 (hS1:limf env 30 [.agg [a8 c_1,a32 c_2,a8 c_3,aI c_4,aI c_5,a8 c_6,a32 c_7,a8 c_8,aI c_9,aNil],.agg [a8 c_1,a32 c_2,a8 c_3,aI c_4,aI c_5,a8 c_6,a32 c_7,a8 c_8,aI c_9,y1]]=some (aB true)) (hS2:limf env 30 [.agg [a8 p_1,a32 p_2,a8 p_3,aI p_4,aI p_5,a8 p_6,a32 p_7,a8 p_8,aI p_9,(.isl 1 (rows pl) none)],.agg [a8 p_1,a32 p_2,a8 p_3,aI p_4,aI p_5,a8 p_6,a32 p_7,a8 p_8,aI p_9,y2]]=some (aB true)) (hS3:limf env 30 [.agg [a8 u_1,a32 u_2,a8 u_3,aI u_4,aI u_5,a8 u_6,a32 u_7,a8 u_8,aI u_9,(.isl 1 (rows ql) none)],.agg [a8 u_1,a32 u_2,a8 u_3,aI u_4,aI u_5,a8 u_6,a32 u_7,a8 u_8,aI u_9,y3]]=some (aB true)) (hS4:limf env 30 [.agg [a8 t_1,a32 t_2,a8 t_3,aI t_4,aI t_5,a8 t_6,a32 t_7,a8 t_8,aI t_9,(.isl 1 (rows tl) none)],.agg [a8 t_1,a32 t_2,a8 t_3,aI t_4,aI t_5,a8 t_6,a32 t_7,a8 t_8,aI t_9,y4]]=some (aB true))
 (h19:limf env 19 [.agg [a8 a_1,a32 a_2,a8 a_3,aI a_4,aI a_5,a8 a_6,a32 a_7,a8 a_8,aI a_9,(.isl 1 (rows l) none)]]=some (aI e5)) (h32:limf env 32 [.agg [a8 a_1,a32 a_2,a8 a_3,aI a_4,aI a_5,a8 a_6,a32 a_7,a8 a_8,aI a_9,x0]]=some (aI e5)) (h18:limf env 18 [.agg [a8 a_1,a32 a_2,a8 a_3,aI a_4,aI a_5,a8 a_6,a32 a_7,a8 a_8,aI a_9,(.isl 1 (rows l) none)],.agg [a8 b_1,a32 b_2,a8 b_3,aI b_4,aI b_5,a8 b_6,a32 b_7,a8 b_8,aI b_9,(.isl 1 (rows m) none)]]=some (aB same)) (h30:limf env 30 [.agg [a8 a_1,a32 a_2,a8 a_3,aI a_4,aI a_5,a8 a_6,a32 a_7,a8 a_8,aI a_9,x0],.agg [a8 b_1,a32 b_2,a8 b_3,aI b_4,aI b_5,a8 b_6,a32 b_7,a8 b_8,aI b_9,x1]]=some (aB same)) (h18':limf env 18 [.agg [a8 a_1,a32 a_2,a8 a_3,aI a_4,aI a_5,a8 a_6,a32 a_7,a8 a_8,aI a_9,(.isl 1 (rows l) none)],.agg [a8 a_1,a32 a_2,a8 a_3,aI a_4,aI a_5,a8 a_6,a32 a_7,a8 a_8,aI a_9,x0]]=some (aB true)) (h30':limf env 30 [.agg [a8 a_1,a32 a_2,a8 a_3,aI a_4,aI a_5,a8 a_6,a32 a_7,a8 a_8,aI a_9,(.isl 1 (rows l) none)],.agg [a8 a_1,a32 a_2,a8 a_3,aI a_4,aI a_5,a8 a_6,a32 a_7,a8 a_8,aI a_9,x0]]=some (aB true)) (h30'':limf env 30 [.agg [a8 b_1,a32 b_2,a8 b_3,aI b_4,aI b_5,a8 b_6,a32 b_7,a8 b_8,aI b_9,(.isl 1 (rows m) none)],.agg [a8 b_1,a32 b_2,a8 b_3,aI b_4,aI b_5,a8 b_6,a32 b_7,a8 b_8,aI b_9,x1]]=some (aB true)) (h34:limf env 34 [.agg [a8 o_1,a8 o_2,a32 o_3,a8 o_4,aI o_5,a8 o_6,a32 o_7,a8 o_8,aI o_9,aI o_10,a8 o_11,a32 o_12,a8 o_13,aI o_14,a8 o_15,a32 o_16,aNil],.agg [a8 o_1,a8 o_2,a32 o_3,a8 o_4,aI o_5,a8 o_6,a32 o_7,a8 o_8,aI o_9,aI o_10,a8 o_11,a32 o_12,a8 o_13,aI o_14,a8 o_15,a32 o_16,x2]]=some (aB true)) :
 limf env 6 [.agg [a8 a_1,a32 a_2,a8 a_3,aI a_4,aI a_5,a8 a_6,a32 a_7,a8 a_8,aI a_9,x0],.agg [a8 b_1,a32 b_2,a8 b_3,aI b_4,aI b_5,a8 b_6,a32 b_7,a8 b_8,aI b_9,x1],.agg [a8 o_1,a8 o_2,a32 o_3,a8 o_4,aI o_5,a8 o_6,a32 o_7,a8 o_8,aI o_9,aI o_10,a8 o_11,a32 o_12,a8 o_13,aI o_14,a8 o_15,a32 o_16,x2],aI n]=some (aB true):=by
 have hF1:=fun H r=>aG (H:=H) (f:=24) (by kernel_rfl) false 0 r (args:=[.agg [a8 a_1,a32 a_2,a8 a_3,aI a_4,aI a_5,a8 a_6,a32 a_7,a8 a_8,aI a_9,x0]]) (by simp[hx.r]) (by simp[hx.r]) hT1
 have hF2:=fun H r=>aG (H:=H) (f:=24) (by kernel_rfl) false 0 r (args:=[.agg [a8 b_1,a32 b_2,a8 b_3,aI b_4,aI b_5,a8 b_6,a32 b_7,a8 b_8,aI b_9,x1]]) (by simp[hy.r]) (by simp[hy.r]) hT2
 have fpl:=aF pl
 have fql:=aF ql
 have ftl:=aF tl
 have fl:=aF l
 clear hT1 hT2
 refine aC (fn:=Try.f6) (c:=ai) rfl (by kernel_rfl) (by kernel_rfl) (by kernel_rfl) (by kernel_rfl) ?_;refine aq _ _ _ _ _ _ fun g=>?_
 simp[ar,au,ae,af,ab, *,aj,hx.r,hy.r,hz.r,s1.r,s2.r,s3.r,s4.r,frzB,eqA,eqFs]
 refine az c_1 c_2 c_3 c_4 c_5 c_6 c_7 c_8 c_9 ([]:List Int) ?_ ?_ (by simp) (fun v0 J0 F0 k0=>?_)
 ·exact bz rfl
 ·exact(.inl ⟨rfl,rfl⟩)
 have c0_p:=k0 ⟨0,16,0,0⟩ _ (fun e=>by cases e) rfl
 have r0_p:=k0 ⟨0,72,0,0⟩ _ (fun e=>by cases e) rfl
 have c0_u:=k0 ⟨0,17,0,0⟩ _ (fun e=>by cases e) rfl
 have r0_u:=k0 ⟨0,72,0,1⟩ _ (fun e=>by cases e) rfl
 have c0_t:=k0 ⟨0,22,0,0⟩ _ (fun e=>by cases e) rfl
 have r0_t:=k0 ⟨0,86,0,0⟩ _ (fun e=>by cases e) rfl
 have c0_v:=k0 ⟨0,35,0,0⟩ _ (fun e=>by cases e) rfl
 have r0_v:=k0 ⟨0,145,0,0⟩ _ (fun e=>by cases e) rfl
 have d0_4:=k0 ⟨0,4,0,0⟩ _ (fun e=>by cases e) rfl
 have d0_5:=k0 ⟨0,5,0,0⟩ _ (fun e=>by cases e) rfl
 have d0_6:=k0 ⟨0,6,0,0⟩ _ (fun e=>by cases e) rfl
 have d0_9:=k0 ⟨0,9,0,0⟩ _ (fun e=>by cases e) rfl
 have d0_10:=k0 ⟨0,10,0,0⟩ _ (fun e=>by cases e) rfl
 have d0_11:=k0 ⟨0,11,0,0⟩ _ (fun e=>by cases e) rfl
 have w0_x:=k0 ⟨0,54,0,0⟩ _ (fun e=>by cases e) rfl
 have w0_y:=k0 ⟨0,56,0,0⟩ _ (fun e=>by cases e) rfl
 clear k0
 simp[c0_p]
 refine az p_1 p_2 p_3 p_4 p_5 p_6 p_7 p_8 p_9 pl ?_ ?_ bpl (fun v1 J1 F1 k1=>?_)
 ·exact F0
 ·exact(.inr ⟨⟨0,72,0,0⟩,none,by simp,r0_p⟩)
 have c1_u:=k1 ⟨0,17,0,0⟩ _ (fun e=>by cases e) c0_u
 have r1_u:=k1 ⟨0,72,0,1⟩ _ (fun e=>by cases e) r0_u
 have c1_t:=k1 ⟨0,22,0,0⟩ _ (fun e=>by cases e) c0_t
 have r1_t:=k1 ⟨0,86,0,0⟩ _ (fun e=>by cases e) r0_t
 have c1_v:=k1 ⟨0,35,0,0⟩ _ (fun e=>by cases e) c0_v
 have r1_v:=k1 ⟨0,145,0,0⟩ _ (fun e=>by cases e) r0_v
 have d1_4:=k1 ⟨0,4,0,0⟩ _ (fun e=>by cases e) d0_4
 have d1_5:=k1 ⟨0,5,0,0⟩ _ (fun e=>by cases e) d0_5
 have d1_6:=k1 ⟨0,6,0,0⟩ _ (fun e=>by cases e) d0_6
 have d1_9:=k1 ⟨0,9,0,0⟩ _ (fun e=>by cases e) d0_9
 have d1_10:=k1 ⟨0,10,0,0⟩ _ (fun e=>by cases e) d0_10
 have d1_11:=k1 ⟨0,11,0,0⟩ _ (fun e=>by cases e) d0_11
 have w1_x:=k1 ⟨0,54,0,0⟩ _ (fun e=>by cases e) w0_x
 have w1_y:=k1 ⟨0,56,0,0⟩ _ (fun e=>by cases e) w0_y
 clear k1
 simp[c1_u]
 refine az u_1 u_2 u_3 u_4 u_5 u_6 u_7 u_8 u_9 ql ?_ ?_ bql (fun v2 J2 F2 k2=>?_)
 ·exact F1
 ·exact(.inr ⟨⟨0,72,0,1⟩,none,by simp,r1_u⟩)
 have c2_t:=k2 ⟨0,22,0,0⟩ _ (fun e=>by cases e) c1_t
 have r2_t:=k2 ⟨0,86,0,0⟩ _ (fun e=>by cases e) r1_t
 have c2_v:=k2 ⟨0,35,0,0⟩ _ (fun e=>by cases e) c1_v
 have r2_v:=k2 ⟨0,145,0,0⟩ _ (fun e=>by cases e) r1_v
 have d2_4:=k2 ⟨0,4,0,0⟩ _ (fun e=>by cases e) d1_4
 have d2_5:=k2 ⟨0,5,0,0⟩ _ (fun e=>by cases e) d1_5
 have d2_6:=k2 ⟨0,6,0,0⟩ _ (fun e=>by cases e) d1_6
 have d2_9:=k2 ⟨0,9,0,0⟩ _ (fun e=>by cases e) d1_9
 have d2_10:=k2 ⟨0,10,0,0⟩ _ (fun e=>by cases e) d1_10
 have d2_11:=k2 ⟨0,11,0,0⟩ _ (fun e=>by cases e) d1_11
 have w2_x:=k2 ⟨0,54,0,0⟩ _ (fun e=>by cases e) w1_x
 have w2_y:=k2 ⟨0,56,0,0⟩ _ (fun e=>by cases e) w1_y
 clear k2
 simp[c2_t]
 refine az t_1 t_2 t_3 t_4 t_5 t_6 t_7 t_8 t_9 tl ?_ ?_ btl (fun v3 J3 F3 k3=>?_)
 ·exact F2
 ·exact(.inr ⟨⟨0,86,0,0⟩,none,by simp,r2_t⟩)
 have c3_v:=k3 ⟨0,35,0,0⟩ _ (fun e=>by cases e) c2_v
 have r3_v:=k3 ⟨0,145,0,0⟩ _ (fun e=>by cases e) r2_v
 have d3_4:=k3 ⟨0,4,0,0⟩ _ (fun e=>by cases e) d2_4
 have d3_5:=k3 ⟨0,5,0,0⟩ _ (fun e=>by cases e) d2_5
 have d3_6:=k3 ⟨0,6,0,0⟩ _ (fun e=>by cases e) d2_6
 have d3_9:=k3 ⟨0,9,0,0⟩ _ (fun e=>by cases e) d2_9
 have d3_10:=k3 ⟨0,10,0,0⟩ _ (fun e=>by cases e) d2_10
 have d3_11:=k3 ⟨0,11,0,0⟩ _ (fun e=>by cases e) d2_11
 have w3_x:=k3 ⟨0,54,0,0⟩ _ (fun e=>by cases e) w2_x
 have w3_y:=k3 ⟨0,56,0,0⟩ _ (fun e=>by cases e) w2_y
 clear k3
 simp[c3_v]
 refine az a_1 a_2 a_3 a_4 a_5 a_6 a_7 a_8 a_9 l ?_ ?_ (by omega) (fun v4 J4 F4 k4=>?_)
 ·exact F3
 ·exact(.inr ⟨⟨0,145,0,0⟩,none,by simp,r3_v⟩)
 have d4_4:=k4 ⟨0,4,0,0⟩ _ (fun e=>by cases e) d3_4
 have d4_5:=k4 ⟨0,5,0,0⟩ _ (fun e=>by cases e) d3_5
 have d4_6:=k4 ⟨0,6,0,0⟩ _ (fun e=>by cases e) d3_6
 have d4_9:=k4 ⟨0,9,0,0⟩ _ (fun e=>by cases e) d3_9
 have d4_10:=k4 ⟨0,10,0,0⟩ _ (fun e=>by cases e) d3_10
 have d4_11:=k4 ⟨0,11,0,0⟩ _ (fun e=>by cases e) d3_11
 have w4_x:=k4 ⟨0,54,0,0⟩ _ (fun e=>by cases e) w3_x
 have w4_y:=k4 ⟨0,56,0,0⟩ _ (fun e=>by cases e) w3_y
 clear k4
 simp[d4_4,d4_5,d4_6,d4_9,d4_10,d4_11,w4_x,w4_y,hx.r,hy.r,hz.r,h30',h30'',h34]
set_option maxHeartbeats 4000000 in
theorem rh(a_1:UInt8)(a_2:UInt32)(a_3:UInt8)(a_4:Int)(a_5:Int)(a_6:UInt8)(a_7:UInt32)(a_8:UInt8)(a_9:Int)(b_1:UInt8)(b_2:UInt32)(b_3:UInt8)(b_4:Int)(b_5:Int)(b_6:UInt8)(b_7:UInt32)(b_8:UInt8)(b_9:Int)(o_1:UInt8)(o_2:UInt8)(o_3:UInt32)(o_4:UInt8)(o_5:Int)(o_6:UInt8)(o_7:UInt32)(o_8:UInt8)(o_9:Int)(o_10:Int)(o_11:UInt8)(o_12:UInt32)(o_13:UInt8)(o_14:Int)(o_15:UInt8)(o_16:UInt32)(c_1:UInt8)(c_2:UInt32)(c_3:UInt8)(c_4:Int)(c_5:Int)(c_6:UInt8)(c_7:UInt32)(c_8:UInt8)(c_9:Int)(p_1:UInt8)(p_2:UInt32)(p_3:UInt8)(p_4:Int)(p_5:Int)(p_6:UInt8)(p_7:UInt32)(p_8:UInt8)(p_9:Int)(u_1:UInt8)(u_2:UInt32)(u_3:UInt8)(u_4:Int)(u_5:Int)(u_6:UInt8)(u_7:UInt32)(u_8:UInt8)(u_9:Int)(t_1:UInt8)(t_2:UInt32)(t_3:UInt8)(t_4:Int)(t_5:Int)(t_6:UInt8)(t_7:UInt32)(t_8:UInt8)(t_9:Int)(i_1:UInt8)(i_2:UInt32)(i_3:UInt8)(i_4:Int)(j_1:UInt8)(j_2:UInt32)(j_3:UInt8)(j_4:Int)(n k e1 e2 e3 e4 e5:Int)(same:Bool){x0 x1 x2 y1 y2 y3 y4:AV}{l m q:List Int}
 (hx:Sl 1 (rows l) x0) (hy:Sl 1 (rows m) x1) (hz:Sl 1 (rows q) x2)
 (nl:rows l≠[]) (gl : ¬(1000:Int)<l.length)
 (nm:rows m≠[]) (gm : ¬(1000:Int)<m.length)
 (nq:rows q≠[]) (gq : ¬(1000:Int)<q.length)
 (hT1:limf env 24 [.agg [a8 a_1,a32 a_2,a8 a_3,aI a_4,aI a_5,a8 a_6,a32 a_7,a8 a_8,aI a_9,x0]]=some (.agg [a8 a_1,a32 a_2,a8 a_3,aI a_4,aI a_5,a8 a_6,a32 a_7,a8 a_8,aI a_9,(.fsl 1 (rows l) none)])) (hT2:limf env 24 [.agg [a8 b_1,a32 b_2,a8 b_3,aI b_4,aI b_5,a8 b_6,a32 b_7,a8 b_8,aI b_9,x1]]=some (.agg [a8 b_1,a32 b_2,a8 b_3,aI b_4,aI b_5,a8 b_6,a32 b_7,a8 b_8,aI b_9,(.fsl 1 (rows m) none)])) (hT3:limf env 25 [.agg [a8 o_1,a8 o_2,a32 o_3,a8 o_4,aI o_5,a8 o_6,a32 o_7,a8 o_8,aI o_9,aI o_10,a8 o_11,a32 o_12,a8 o_13,aI o_14,a8 o_15,a32 o_16,x2]]=some (.agg [a8 o_1,a8 o_2,a32 o_3,a8 o_4,aI o_5,a8 o_6,a32 o_7,a8 o_8,aI o_9,aI o_10,a8 o_11,a32 o_12,a8 o_13,aI o_14,a8 o_15,a32 o_16,(.isl 1 (rows q) none)]))
 (h23:limf env 23 [.agg [a8 o_1,a8 o_2,a32 o_3,a8 o_4,aI o_5,a8 o_6,a32 o_7,a8 o_8,aI o_9,aI o_10,a8 o_11,a32 o_12,a8 o_13,aI o_14,a8 o_15,a32 o_16,(.isl 1 (rows q) none)]]=some (.tup [.agg [a8 c_1,a32 c_2,a8 c_3,aI c_4,aI c_5,a8 c_6,a32 c_7,a8 c_8,aI c_9,aNil],aI e1])) (h26:limf env 26 [.agg [a8 o_1,a8 o_2,a32 o_3,a8 o_4,aI o_5,a8 o_6,a32 o_7,a8 o_8,aI o_9,aI o_10,a8 o_11,a32 o_12,a8 o_13,aI o_14,a8 o_15,a32 o_16,x2]]=some (.tup [.agg [a8 c_1,a32 c_2,a8 c_3,aI c_4,aI c_5,a8 c_6,a32 c_7,a8 c_8,aI c_9,y1],aI e1])) (s1:Sl 1 (rows ([]:List Int)) y1)
 (h17:limf env 17 [.agg [a8 a_1,a32 a_2,a8 a_3,aI a_4,aI a_5,a8 a_6,a32 a_7,a8 a_8,aI a_9,(.isl 1 (rows l) none)],aI n]=some (.tup [.agg [a8 p_1,a32 p_2,a8 p_3,aI p_4,aI p_5,a8 p_6,a32 p_7,a8 p_8,aI p_9,aNil],.agg [a8 u_1,a32 u_2,a8 u_3,aI u_4,aI u_5,a8 u_6,a32 u_7,a8 u_8,aI u_9,aNil],aI e2])) (h27:limf env 27 [.agg [a8 a_1,a32 a_2,a8 a_3,aI a_4,aI a_5,a8 a_6,a32 a_7,a8 a_8,aI a_9,x0],aI n]=some (.tup [.agg [a8 p_1,a32 p_2,a8 p_3,aI p_4,aI p_5,a8 p_6,a32 p_7,a8 p_8,aI p_9,y2],.agg [a8 u_1,a32 u_2,a8 u_3,aI u_4,aI u_5,a8 u_6,a32 u_7,a8 u_8,aI u_9,y3],aI e2])) (s2:Sl 1 (rows ([]:List Int)) y2) (s3:Sl 1 (rows ([]:List Int)) y3)
 (h16:limf env 16 [.agg [a8 a_1,a32 a_2,a8 a_3,aI a_4,aI a_5,a8 a_6,a32 a_7,a8 a_8,aI a_9,(.isl 1 (rows l) none)],.agg [a8 b_1,a32 b_2,a8 b_3,aI b_4,aI b_5,a8 b_6,a32 b_7,a8 b_8,aI b_9,(.isl 1 (rows m) none)]]=some (.tup [.agg [a8 t_1,a32 t_2,a8 t_3,aI t_4,aI t_5,a8 t_6,a32 t_7,a8 t_8,aI t_9,aNil],aI e3])) (h28:limf env 28 [.agg [a8 a_1,a32 a_2,a8 a_3,aI a_4,aI a_5,a8 a_6,a32 a_7,a8 a_8,aI a_9,x0],.agg [a8 b_1,a32 b_2,a8 b_3,aI b_4,aI b_5,a8 b_6,a32 b_7,a8 b_8,aI b_9,x1]]=some (.tup [.agg [a8 t_1,a32 t_2,a8 t_3,aI t_4,aI t_5,a8 t_6,a32 t_7,a8 t_8,aI t_9,y4],aI e3])) (s4:Sl 1 (rows ([]:List Int)) y4)
 (h20:limf env 20 [.agg [a8 a_1,a32 a_2,a8 a_3,aI a_4,aI a_5,a8 a_6,a32 a_7,a8 a_8,aI a_9,(.isl 1 (rows l) none)],aI n]=some (.tup [.agg [a8 i_1,a32 i_2,a8 i_3,aI i_4],.agg [a8 j_1,a32 j_2,a8 j_3,aI j_4],.v (.int .i32 k),aI e4])) (h29:limf env 29 [.agg [a8 a_1,a32 a_2,a8 a_3,aI a_4,aI a_5,a8 a_6,a32 a_7,a8 a_8,aI a_9,x0],aI n]=some (.tup [.agg [a8 i_1,a32 i_2,a8 i_3,aI i_4],.agg [a8 j_1,a32 j_2,a8 j_3,aI j_4],.v (.int .i32 k),aI e4]))
 (h31:limf env 31 [.agg [a8 a_1,a32 a_2,a8 a_3,aI a_4,aI a_5,a8 a_6,a32 a_7,a8 a_8,aI a_9,(.isl 1 (rows l) none)]]=some (.agg [a8 a_1,a32 a_2,a8 a_3,aI a_4,aI a_5,a8 a_6,a32 a_7,a8 a_8,aI a_9,(.fsl 1 (rows l) none)]))
 (hS1:limf env 30 [.agg [a8 c_1,a32 c_2,a8 c_3,aI c_4,aI c_5,a8 c_6,a32 c_7,a8 c_8,aI c_9,aNil],.agg [a8 c_1,a32 c_2,a8 c_3,aI c_4,aI c_5,a8 c_6,a32 c_7,a8 c_8,aI c_9,y1]]=some (aB true)) (hS2:limf env 30 [.agg [a8 p_1,a32 p_2,a8 p_3,aI p_4,aI p_5,a8 p_6,a32 p_7,a8 p_8,aI p_9,aNil],.agg [a8 p_1,a32 p_2,a8 p_3,aI p_4,aI p_5,a8 p_6,a32 p_7,a8 p_8,aI p_9,y2]]=some (aB true)) (hS3:limf env 30 [.agg [a8 u_1,a32 u_2,a8 u_3,aI u_4,aI u_5,a8 u_6,a32 u_7,a8 u_8,aI u_9,aNil],.agg [a8 u_1,a32 u_2,a8 u_3,aI u_4,aI u_5,a8 u_6,a32 u_7,a8 u_8,aI u_9,y3]]=some (aB true)) (hS4:limf env 30 [.agg [a8 t_1,a32 t_2,a8 t_3,aI t_4,aI t_5,a8 t_6,a32 t_7,a8 t_8,aI t_9,aNil],.agg [a8 t_1,a32 t_2,a8 t_3,aI t_4,aI t_5,a8 t_6,a32 t_7,a8 t_8,aI t_9,y4]]=some (aB true))
 (h19:limf env 19 [.agg [a8 a_1,a32 a_2,a8 a_3,aI a_4,aI a_5,a8 a_6,a32 a_7,a8 a_8,aI a_9,(.isl 1 (rows l) none)]]=some (aI e5)) (h32:limf env 32 [.agg [a8 a_1,a32 a_2,a8 a_3,aI a_4,aI a_5,a8 a_6,a32 a_7,a8 a_8,aI a_9,x0]]=some (aI e5)) (h18:limf env 18 [.agg [a8 a_1,a32 a_2,a8 a_3,aI a_4,aI a_5,a8 a_6,a32 a_7,a8 a_8,aI a_9,(.isl 1 (rows l) none)],.agg [a8 b_1,a32 b_2,a8 b_3,aI b_4,aI b_5,a8 b_6,a32 b_7,a8 b_8,aI b_9,(.isl 1 (rows m) none)]]=some (aB same)) (h30:limf env 30 [.agg [a8 a_1,a32 a_2,a8 a_3,aI a_4,aI a_5,a8 a_6,a32 a_7,a8 a_8,aI a_9,x0],.agg [a8 b_1,a32 b_2,a8 b_3,aI b_4,aI b_5,a8 b_6,a32 b_7,a8 b_8,aI b_9,x1]]=some (aB same)) (h18':limf env 18 [.agg [a8 a_1,a32 a_2,a8 a_3,aI a_4,aI a_5,a8 a_6,a32 a_7,a8 a_8,aI a_9,(.isl 1 (rows l) none)],.agg [a8 a_1,a32 a_2,a8 a_3,aI a_4,aI a_5,a8 a_6,a32 a_7,a8 a_8,aI a_9,x0]]=some (aB true)) (h30':limf env 30 [.agg [a8 a_1,a32 a_2,a8 a_3,aI a_4,aI a_5,a8 a_6,a32 a_7,a8 a_8,aI a_9,(.isl 1 (rows l) none)],.agg [a8 a_1,a32 a_2,a8 a_3,aI a_4,aI a_5,a8 a_6,a32 a_7,a8 a_8,aI a_9,x0]]=some (aB true)) (h30'':limf env 30 [.agg [a8 b_1,a32 b_2,a8 b_3,aI b_4,aI b_5,a8 b_6,a32 b_7,a8 b_8,aI b_9,(.isl 1 (rows m) none)],.agg [a8 b_1,a32 b_2,a8 b_3,aI b_4,aI b_5,a8 b_6,a32 b_7,a8 b_8,aI b_9,x1]]=some (aB true)) (h34:limf env 34 [.agg [a8 o_1,a8 o_2,a32 o_3,a8 o_4,aI o_5,a8 o_6,a32 o_7,a8 o_8,aI o_9,aI o_10,a8 o_11,a32 o_12,a8 o_13,aI o_14,a8 o_15,a32 o_16,(.isl 1 (rows q) none)],.agg [a8 o_1,a8 o_2,a32 o_3,a8 o_4,aI o_5,a8 o_6,a32 o_7,a8 o_8,aI o_9,aI o_10,a8 o_11,a32 o_12,a8 o_13,aI o_14,a8 o_15,a32 o_16,x2]]=some (aB true)) :
 limf env 6 [.agg [a8 a_1,a32 a_2,a8 a_3,aI a_4,aI a_5,a8 a_6,a32 a_7,a8 a_8,aI a_9,x0],.agg [a8 b_1,a32 b_2,a8 b_3,aI b_4,aI b_5,a8 b_6,a32 b_7,a8 b_8,aI b_9,x1],.agg [a8 o_1,a8 o_2,a32 o_3,a8 o_4,aI o_5,a8 o_6,a32 o_7,a8 o_8,aI o_9,aI o_10,a8 o_11,a32 o_12,a8 o_13,aI o_14,a8 o_15,a32 o_16,x2],aI n]=some (aB true):=by
 have hF1:=fun H r=>aG (H:=H) (f:=24) (by kernel_rfl) false 0 r (args:=[.agg [a8 a_1,a32 a_2,a8 a_3,aI a_4,aI a_5,a8 a_6,a32 a_7,a8 a_8,aI a_9,x0]]) (by simp[hx.r]) (by simp[hx.r]) hT1
 have hF2:=fun H r=>aG (H:=H) (f:=24) (by kernel_rfl) false 0 r (args:=[.agg [a8 b_1,a32 b_2,a8 b_3,aI b_4,aI b_5,a8 b_6,a32 b_7,a8 b_8,aI b_9,x1]]) (by simp[hy.r]) (by simp[hy.r]) hT2
 have fl:=aF l
 clear hT1 hT2
 refine aC (fn:=Try.f6) (c:=ai) rfl (by kernel_rfl) (by kernel_rfl) (by kernel_rfl) (by kernel_rfl) ?_;refine aq _ _ _ _ _ _ fun g=>?_
 simp[ar,au,ae,af,ab, *,aj,hx.r,hy.r,hz.r,s1.r,s2.r,s3.r,s4.r,frzB,eqA,eqFs]
 refine az c_1 c_2 c_3 c_4 c_5 c_6 c_7 c_8 c_9 ([]:List Int) ?_ ?_ (by simp) (fun v0 J0 F0 k0=>?_)
 ·exact bz rfl
 ·exact(.inl ⟨rfl,rfl⟩)
 have c0_p:=k0 ⟨0,16,0,0⟩ _ (fun e=>by cases e) rfl
 have c0_u:=k0 ⟨0,17,0,0⟩ _ (fun e=>by cases e) rfl
 have c0_t:=k0 ⟨0,22,0,0⟩ _ (fun e=>by cases e) rfl
 have c0_v:=k0 ⟨0,35,0,0⟩ _ (fun e=>by cases e) rfl
 have r0_v:=k0 ⟨0,145,0,0⟩ _ (fun e=>by cases e) rfl
 have d0_4:=k0 ⟨0,4,0,0⟩ _ (fun e=>by cases e) rfl
 have d0_5:=k0 ⟨0,5,0,0⟩ _ (fun e=>by cases e) rfl
 have d0_6:=k0 ⟨0,6,0,0⟩ _ (fun e=>by cases e) rfl
 have d0_9:=k0 ⟨0,9,0,0⟩ _ (fun e=>by cases e) rfl
 have d0_10:=k0 ⟨0,10,0,0⟩ _ (fun e=>by cases e) rfl
 have d0_11:=k0 ⟨0,11,0,0⟩ _ (fun e=>by cases e) rfl
 have w0_x:=k0 ⟨0,54,0,0⟩ _ (fun e=>by cases e) rfl
 have w0_y:=k0 ⟨0,56,0,0⟩ _ (fun e=>by cases e) rfl
 clear k0
 simp[c0_p]
 refine az p_1 p_2 p_3 p_4 p_5 p_6 p_7 p_8 p_9 ([]:List Int) ?_ ?_ (by simp) (fun v1 J1 F1 k1=>?_)
 ·exact F0
 ·exact(.inl ⟨rfl,rfl⟩)
 have c1_u:=k1 ⟨0,17,0,0⟩ _ (fun e=>by cases e) c0_u
 have c1_t:=k1 ⟨0,22,0,0⟩ _ (fun e=>by cases e) c0_t
 have c1_v:=k1 ⟨0,35,0,0⟩ _ (fun e=>by cases e) c0_v
 have r1_v:=k1 ⟨0,145,0,0⟩ _ (fun e=>by cases e) r0_v
 have d1_4:=k1 ⟨0,4,0,0⟩ _ (fun e=>by cases e) d0_4
 have d1_5:=k1 ⟨0,5,0,0⟩ _ (fun e=>by cases e) d0_5
 have d1_6:=k1 ⟨0,6,0,0⟩ _ (fun e=>by cases e) d0_6
 have d1_9:=k1 ⟨0,9,0,0⟩ _ (fun e=>by cases e) d0_9
 have d1_10:=k1 ⟨0,10,0,0⟩ _ (fun e=>by cases e) d0_10
 have d1_11:=k1 ⟨0,11,0,0⟩ _ (fun e=>by cases e) d0_11
 have w1_x:=k1 ⟨0,54,0,0⟩ _ (fun e=>by cases e) w0_x
 have w1_y:=k1 ⟨0,56,0,0⟩ _ (fun e=>by cases e) w0_y
 clear k1
 simp[c1_u]
 refine az u_1 u_2 u_3 u_4 u_5 u_6 u_7 u_8 u_9 ([]:List Int) ?_ ?_ (by simp) (fun v2 J2 F2 k2=>?_)
 ·exact F1
 ·exact(.inl ⟨rfl,rfl⟩)
 have c2_t:=k2 ⟨0,22,0,0⟩ _ (fun e=>by cases e) c1_t
 have c2_v:=k2 ⟨0,35,0,0⟩ _ (fun e=>by cases e) c1_v
 have r2_v:=k2 ⟨0,145,0,0⟩ _ (fun e=>by cases e) r1_v
 have d2_4:=k2 ⟨0,4,0,0⟩ _ (fun e=>by cases e) d1_4
 have d2_5:=k2 ⟨0,5,0,0⟩ _ (fun e=>by cases e) d1_5
 have d2_6:=k2 ⟨0,6,0,0⟩ _ (fun e=>by cases e) d1_6
 have d2_9:=k2 ⟨0,9,0,0⟩ _ (fun e=>by cases e) d1_9
 have d2_10:=k2 ⟨0,10,0,0⟩ _ (fun e=>by cases e) d1_10
 have d2_11:=k2 ⟨0,11,0,0⟩ _ (fun e=>by cases e) d1_11
 have w2_x:=k2 ⟨0,54,0,0⟩ _ (fun e=>by cases e) w1_x
 have w2_y:=k2 ⟨0,56,0,0⟩ _ (fun e=>by cases e) w1_y
 clear k2
 simp[c2_t]
 refine az t_1 t_2 t_3 t_4 t_5 t_6 t_7 t_8 t_9 ([]:List Int) ?_ ?_ (by simp) (fun v3 J3 F3 k3=>?_)
 ·exact F2
 ·exact(.inl ⟨rfl,rfl⟩)
 have c3_v:=k3 ⟨0,35,0,0⟩ _ (fun e=>by cases e) c2_v
 have r3_v:=k3 ⟨0,145,0,0⟩ _ (fun e=>by cases e) r2_v
 have d3_4:=k3 ⟨0,4,0,0⟩ _ (fun e=>by cases e) d2_4
 have d3_5:=k3 ⟨0,5,0,0⟩ _ (fun e=>by cases e) d2_5
 have d3_6:=k3 ⟨0,6,0,0⟩ _ (fun e=>by cases e) d2_6
 have d3_9:=k3 ⟨0,9,0,0⟩ _ (fun e=>by cases e) d2_9
 have d3_10:=k3 ⟨0,10,0,0⟩ _ (fun e=>by cases e) d2_10
 have d3_11:=k3 ⟨0,11,0,0⟩ _ (fun e=>by cases e) d2_11
 have w3_x:=k3 ⟨0,54,0,0⟩ _ (fun e=>by cases e) w2_x
 have w3_y:=k3 ⟨0,56,0,0⟩ _ (fun e=>by cases e) w2_y
 clear k3
 simp[c3_v]
 refine az a_1 a_2 a_3 a_4 a_5 a_6 a_7 a_8 a_9 l ?_ ?_ (by omega) (fun v4 J4 F4 k4=>?_)
 ·exact F3
 ·exact(.inr ⟨⟨0,145,0,0⟩,none,by simp,r3_v⟩)
 have d4_4:=k4 ⟨0,4,0,0⟩ _ (fun e=>by cases e) d3_4
 have d4_5:=k4 ⟨0,5,0,0⟩ _ (fun e=>by cases e) d3_5
 have d4_6:=k4 ⟨0,6,0,0⟩ _ (fun e=>by cases e) d3_6
 have d4_9:=k4 ⟨0,9,0,0⟩ _ (fun e=>by cases e) d3_9
 have d4_10:=k4 ⟨0,10,0,0⟩ _ (fun e=>by cases e) d3_10
 have d4_11:=k4 ⟨0,11,0,0⟩ _ (fun e=>by cases e) d3_11
 have w4_x:=k4 ⟨0,54,0,0⟩ _ (fun e=>by cases e) w3_x
 have w4_y:=k4 ⟨0,56,0,0⟩ _ (fun e=>by cases e) w3_y
 clear k4
 simp[d4_4,d4_5,d4_6,d4_9,d4_10,d4_11,w4_x,w4_y,hx.r,hy.r,hz.r,h30',h30'',h34]
set_option maxHeartbeats 4000000 in
theorem rg(a_1:UInt8)(a_2:UInt32)(a_3:UInt8)(a_4:Int)(a_5:Int)(a_6:UInt8)(a_7:UInt32)(a_8:UInt8)(a_9:Int)(b_1:UInt8)(b_2:UInt32)(b_3:UInt8)(b_4:Int)(b_5:Int)(b_6:UInt8)(b_7:UInt32)(b_8:UInt8)(b_9:Int)(o_1:UInt8)(o_2:UInt8)(o_3:UInt32)(o_4:UInt8)(o_5:Int)(o_6:UInt8)(o_7:UInt32)(o_8:UInt8)(o_9:Int)(o_10:Int)(o_11:UInt8)(o_12:UInt32)(o_13:UInt8)(o_14:Int)(o_15:UInt8)(o_16:UInt32)(c_1:UInt8)(c_2:UInt32)(c_3:UInt8)(c_4:Int)(c_5:Int)(c_6:UInt8)(c_7:UInt32)(c_8:UInt8)(c_9:Int)(p_1:UInt8)(p_2:UInt32)(p_3:UInt8)(p_4:Int)(p_5:Int)(p_6:UInt8)(p_7:UInt32)(p_8:UInt8)(p_9:Int)(u_1:UInt8)(u_2:UInt32)(u_3:UInt8)(u_4:Int)(u_5:Int)(u_6:UInt8)(u_7:UInt32)(u_8:UInt8)(u_9:Int)(t_1:UInt8)(t_2:UInt32)(t_3:UInt8)(t_4:Int)(t_5:Int)(t_6:UInt8)(t_7:UInt32)(t_8:UInt8)(t_9:Int)(i_1:UInt8)(i_2:UInt32)(i_3:UInt8)(i_4:Int)(j_1:UInt8)(j_2:UInt32)(j_3:UInt8)(j_4:Int)(n k e1 e2 e3 e4 e5:Int)(same:Bool){x0 x1 x2 y1 y2 y3 y4:AV}{l m q tl:List Int}
 (hx:Sl 1 (rows l) x0) (hy:Sl 1 (rows m) x1) (hz:Sl 1 (rows q) x2)
 (nl:rows l≠[]) (gl : ¬(1000:Int)<l.length)
 (nm:rows m≠[]) (gm : ¬(1000:Int)<m.length)
 (nq:rows q≠[]) (gq : ¬(1000:Int)<q.length)
 (ntl:rows tl≠[]) (btl:tl.length<100000)
 (hT1:limf env 24 [.agg [a8 a_1,a32 a_2,a8 a_3,aI a_4,aI a_5,a8 a_6,a32 a_7,a8 a_8,aI a_9,x0]]=some (.agg [a8 a_1,a32 a_2,a8 a_3,aI a_4,aI a_5,a8 a_6,a32 a_7,a8 a_8,aI a_9,(.fsl 1 (rows l) none)])) (hT2:limf env 24 [.agg [a8 b_1,a32 b_2,a8 b_3,aI b_4,aI b_5,a8 b_6,a32 b_7,a8 b_8,aI b_9,x1]]=some (.agg [a8 b_1,a32 b_2,a8 b_3,aI b_4,aI b_5,a8 b_6,a32 b_7,a8 b_8,aI b_9,(.fsl 1 (rows m) none)])) (hT3:limf env 25 [.agg [a8 o_1,a8 o_2,a32 o_3,a8 o_4,aI o_5,a8 o_6,a32 o_7,a8 o_8,aI o_9,aI o_10,a8 o_11,a32 o_12,a8 o_13,aI o_14,a8 o_15,a32 o_16,x2]]=some (.agg [a8 o_1,a8 o_2,a32 o_3,a8 o_4,aI o_5,a8 o_6,a32 o_7,a8 o_8,aI o_9,aI o_10,a8 o_11,a32 o_12,a8 o_13,aI o_14,a8 o_15,a32 o_16,(.isl 1 (rows q) none)]))
 (h23:limf env 23 [.agg [a8 o_1,a8 o_2,a32 o_3,a8 o_4,aI o_5,a8 o_6,a32 o_7,a8 o_8,aI o_9,aI o_10,a8 o_11,a32 o_12,a8 o_13,aI o_14,a8 o_15,a32 o_16,(.isl 1 (rows q) none)]]=some (.tup [.agg [a8 c_1,a32 c_2,a8 c_3,aI c_4,aI c_5,a8 c_6,a32 c_7,a8 c_8,aI c_9,aNil],aI e1])) (h26:limf env 26 [.agg [a8 o_1,a8 o_2,a32 o_3,a8 o_4,aI o_5,a8 o_6,a32 o_7,a8 o_8,aI o_9,aI o_10,a8 o_11,a32 o_12,a8 o_13,aI o_14,a8 o_15,a32 o_16,x2]]=some (.tup [.agg [a8 c_1,a32 c_2,a8 c_3,aI c_4,aI c_5,a8 c_6,a32 c_7,a8 c_8,aI c_9,y1],aI e1])) (s1:Sl 1 (rows ([]:List Int)) y1)
 (h17:limf env 17 [.agg [a8 a_1,a32 a_2,a8 a_3,aI a_4,aI a_5,a8 a_6,a32 a_7,a8 a_8,aI a_9,(.isl 1 (rows l) none)],aI n]=some (.tup [.agg [a8 p_1,a32 p_2,a8 p_3,aI p_4,aI p_5,a8 p_6,a32 p_7,a8 p_8,aI p_9,aNil],.agg [a8 u_1,a32 u_2,a8 u_3,aI u_4,aI u_5,a8 u_6,a32 u_7,a8 u_8,aI u_9,aNil],aI e2])) (h27:limf env 27 [.agg [a8 a_1,a32 a_2,a8 a_3,aI a_4,aI a_5,a8 a_6,a32 a_7,a8 a_8,aI a_9,x0],aI n]=some (.tup [.agg [a8 p_1,a32 p_2,a8 p_3,aI p_4,aI p_5,a8 p_6,a32 p_7,a8 p_8,aI p_9,y2],.agg [a8 u_1,a32 u_2,a8 u_3,aI u_4,aI u_5,a8 u_6,a32 u_7,a8 u_8,aI u_9,y3],aI e2])) (s2:Sl 1 (rows ([]:List Int)) y2) (s3:Sl 1 (rows ([]:List Int)) y3)
 (h16:limf env 16 [.agg [a8 a_1,a32 a_2,a8 a_3,aI a_4,aI a_5,a8 a_6,a32 a_7,a8 a_8,aI a_9,(.isl 1 (rows l) none)],.agg [a8 b_1,a32 b_2,a8 b_3,aI b_4,aI b_5,a8 b_6,a32 b_7,a8 b_8,aI b_9,(.isl 1 (rows m) none)]]=some (.tup [.agg [a8 t_1,a32 t_2,a8 t_3,aI t_4,aI t_5,a8 t_6,a32 t_7,a8 t_8,aI t_9,(.fsl 1 (rows tl) none)],aI e3])) (h28:limf env 28 [.agg [a8 a_1,a32 a_2,a8 a_3,aI a_4,aI a_5,a8 a_6,a32 a_7,a8 a_8,aI a_9,x0],.agg [a8 b_1,a32 b_2,a8 b_3,aI b_4,aI b_5,a8 b_6,a32 b_7,a8 b_8,aI b_9,x1]]=some (.tup [.agg [a8 t_1,a32 t_2,a8 t_3,aI t_4,aI t_5,a8 t_6,a32 t_7,a8 t_8,aI t_9,y4],aI e3])) (s4:Sl 1 (rows tl) y4)
 (h20:limf env 20 [.agg [a8 a_1,a32 a_2,a8 a_3,aI a_4,aI a_5,a8 a_6,a32 a_7,a8 a_8,aI a_9,(.isl 1 (rows l) none)],aI n]=some (.tup [.agg [a8 i_1,a32 i_2,a8 i_3,aI i_4],.agg [a8 j_1,a32 j_2,a8 j_3,aI j_4],.v (.int .i32 k),aI e4])) (h29:limf env 29 [.agg [a8 a_1,a32 a_2,a8 a_3,aI a_4,aI a_5,a8 a_6,a32 a_7,a8 a_8,aI a_9,x0],aI n]=some (.tup [.agg [a8 i_1,a32 i_2,a8 i_3,aI i_4],.agg [a8 j_1,a32 j_2,a8 j_3,aI j_4],.v (.int .i32 k),aI e4]))
 (h31:limf env 31 [.agg [a8 a_1,a32 a_2,a8 a_3,aI a_4,aI a_5,a8 a_6,a32 a_7,a8 a_8,aI a_9,(.isl 1 (rows l) none)]]=some (.agg [a8 a_1,a32 a_2,a8 a_3,aI a_4,aI a_5,a8 a_6,a32 a_7,a8 a_8,aI a_9,(.fsl 1 (rows l) none)]))
 (hS1:limf env 30 [.agg [a8 c_1,a32 c_2,a8 c_3,aI c_4,aI c_5,a8 c_6,a32 c_7,a8 c_8,aI c_9,aNil],.agg [a8 c_1,a32 c_2,a8 c_3,aI c_4,aI c_5,a8 c_6,a32 c_7,a8 c_8,aI c_9,y1]]=some (aB true)) (hS2:limf env 30 [.agg [a8 p_1,a32 p_2,a8 p_3,aI p_4,aI p_5,a8 p_6,a32 p_7,a8 p_8,aI p_9,aNil],.agg [a8 p_1,a32 p_2,a8 p_3,aI p_4,aI p_5,a8 p_6,a32 p_7,a8 p_8,aI p_9,y2]]=some (aB true)) (hS3:limf env 30 [.agg [a8 u_1,a32 u_2,a8 u_3,aI u_4,aI u_5,a8 u_6,a32 u_7,a8 u_8,aI u_9,aNil],.agg [a8 u_1,a32 u_2,a8 u_3,aI u_4,aI u_5,a8 u_6,a32 u_7,a8 u_8,aI u_9,y3]]=some (aB true)) (hS4:limf env 30 [.agg [a8 t_1,a32 t_2,a8 t_3,aI t_4,aI t_5,a8 t_6,a32 t_7,a8 t_8,aI t_9,(.isl 1 (rows tl) none)],.agg [a8 t_1,a32 t_2,a8 t_3,aI t_4,aI t_5,a8 t_6,a32 t_7,a8 t_8,aI t_9,y4]]=some (aB true))
 (h19:limf env 19 [.agg [a8 a_1,a32 a_2,a8 a_3,aI a_4,aI a_5,a8 a_6,a32 a_7,a8 a_8,aI a_9,(.isl 1 (rows l) none)]]=some (aI e5)) (h32:limf env 32 [.agg [a8 a_1,a32 a_2,a8 a_3,aI a_4,aI a_5,a8 a_6,a32 a_7,a8 a_8,aI a_9,x0]]=some (aI e5)) (h18:limf env 18 [.agg [a8 a_1,a32 a_2,a8 a_3,aI a_4,aI a_5,a8 a_6,a32 a_7,a8 a_8,aI a_9,(.isl 1 (rows l) none)],.agg [a8 b_1,a32 b_2,a8 b_3,aI b_4,aI b_5,a8 b_6,a32 b_7,a8 b_8,aI b_9,(.isl 1 (rows m) none)]]=some (aB same)) (h30:limf env 30 [.agg [a8 a_1,a32 a_2,a8 a_3,aI a_4,aI a_5,a8 a_6,a32 a_7,a8 a_8,aI a_9,x0],.agg [a8 b_1,a32 b_2,a8 b_3,aI b_4,aI b_5,a8 b_6,a32 b_7,a8 b_8,aI b_9,x1]]=some (aB same)) (h18':limf env 18 [.agg [a8 a_1,a32 a_2,a8 a_3,aI a_4,aI a_5,a8 a_6,a32 a_7,a8 a_8,aI a_9,(.isl 1 (rows l) none)],.agg [a8 a_1,a32 a_2,a8 a_3,aI a_4,aI a_5,a8 a_6,a32 a_7,a8 a_8,aI a_9,x0]]=some (aB true)) (h30':limf env 30 [.agg [a8 a_1,a32 a_2,a8 a_3,aI a_4,aI a_5,a8 a_6,a32 a_7,a8 a_8,aI a_9,(.isl 1 (rows l) none)],.agg [a8 a_1,a32 a_2,a8 a_3,aI a_4,aI a_5,a8 a_6,a32 a_7,a8 a_8,aI a_9,x0]]=some (aB true)) (h30'':limf env 30 [.agg [a8 b_1,a32 b_2,a8 b_3,aI b_4,aI b_5,a8 b_6,a32 b_7,a8 b_8,aI b_9,(.isl 1 (rows m) none)],.agg [a8 b_1,a32 b_2,a8 b_3,aI b_4,aI b_5,a8 b_6,a32 b_7,a8 b_8,aI b_9,x1]]=some (aB true)) (h34:limf env 34 [.agg [a8 o_1,a8 o_2,a32 o_3,a8 o_4,aI o_5,a8 o_6,a32 o_7,a8 o_8,aI o_9,aI o_10,a8 o_11,a32 o_12,a8 o_13,aI o_14,a8 o_15,a32 o_16,(.isl 1 (rows q) none)],.agg [a8 o_1,a8 o_2,a32 o_3,a8 o_4,aI o_5,a8 o_6,a32 o_7,a8 o_8,aI o_9,aI o_10,a8 o_11,a32 o_12,a8 o_13,aI o_14,a8 o_15,a32 o_16,x2]]=some (aB true)) :
 limf env 6 [.agg [a8 a_1,a32 a_2,a8 a_3,aI a_4,aI a_5,a8 a_6,a32 a_7,a8 a_8,aI a_9,x0],.agg [a8 b_1,a32 b_2,a8 b_3,aI b_4,aI b_5,a8 b_6,a32 b_7,a8 b_8,aI b_9,x1],.agg [a8 o_1,a8 o_2,a32 o_3,a8 o_4,aI o_5,a8 o_6,a32 o_7,a8 o_8,aI o_9,aI o_10,a8 o_11,a32 o_12,a8 o_13,aI o_14,a8 o_15,a32 o_16,x2],aI n]=some (aB true):=by
 have hF1:=fun H r=>aG (H:=H) (f:=24) (by kernel_rfl) false 0 r (args:=[.agg [a8 a_1,a32 a_2,a8 a_3,aI a_4,aI a_5,a8 a_6,a32 a_7,a8 a_8,aI a_9,x0]]) (by simp[hx.r]) (by simp[hx.r]) hT1
 have hF2:=fun H r=>aG (H:=H) (f:=24) (by kernel_rfl) false 0 r (args:=[.agg [a8 b_1,a32 b_2,a8 b_3,aI b_4,aI b_5,a8 b_6,a32 b_7,a8 b_8,aI b_9,x1]]) (by simp[hy.r]) (by simp[hy.r]) hT2
 have ftl:=aF tl
 have fl:=aF l
 clear hT1 hT2
 refine aC (fn:=Try.f6) (c:=ai) rfl (by kernel_rfl) (by kernel_rfl) (by kernel_rfl) (by kernel_rfl) ?_;refine aq _ _ _ _ _ _ fun g=>?_
 simp[ar,au,ae,af,ab, *,aj,hx.r,hy.r,hz.r,s1.r,s2.r,s3.r,s4.r,frzB,eqA,eqFs]
 refine az c_1 c_2 c_3 c_4 c_5 c_6 c_7 c_8 c_9 ([]:List Int) ?_ ?_ (by simp) (fun v0 J0 F0 k0=>?_)
 ·exact bz rfl
 ·exact(.inl ⟨rfl,rfl⟩)
 have c0_p:=k0 ⟨0,16,0,0⟩ _ (fun e=>by cases e) rfl
 have c0_u:=k0 ⟨0,17,0,0⟩ _ (fun e=>by cases e) rfl
 have c0_t:=k0 ⟨0,22,0,0⟩ _ (fun e=>by cases e) rfl
 have r0_t:=k0 ⟨0,86,0,0⟩ _ (fun e=>by cases e) rfl
 have c0_v:=k0 ⟨0,35,0,0⟩ _ (fun e=>by cases e) rfl
 have r0_v:=k0 ⟨0,145,0,0⟩ _ (fun e=>by cases e) rfl
 have d0_4:=k0 ⟨0,4,0,0⟩ _ (fun e=>by cases e) rfl
 have d0_5:=k0 ⟨0,5,0,0⟩ _ (fun e=>by cases e) rfl
 have d0_6:=k0 ⟨0,6,0,0⟩ _ (fun e=>by cases e) rfl
 have d0_9:=k0 ⟨0,9,0,0⟩ _ (fun e=>by cases e) rfl
 have d0_10:=k0 ⟨0,10,0,0⟩ _ (fun e=>by cases e) rfl
 have d0_11:=k0 ⟨0,11,0,0⟩ _ (fun e=>by cases e) rfl
 have w0_x:=k0 ⟨0,54,0,0⟩ _ (fun e=>by cases e) rfl
 have w0_y:=k0 ⟨0,56,0,0⟩ _ (fun e=>by cases e) rfl
 clear k0
 simp[c0_p]
 refine az p_1 p_2 p_3 p_4 p_5 p_6 p_7 p_8 p_9 ([]:List Int) ?_ ?_ (by simp) (fun v1 J1 F1 k1=>?_)
 ·exact F0
 ·exact(.inl ⟨rfl,rfl⟩)
 have c1_u:=k1 ⟨0,17,0,0⟩ _ (fun e=>by cases e) c0_u
 have c1_t:=k1 ⟨0,22,0,0⟩ _ (fun e=>by cases e) c0_t
 have r1_t:=k1 ⟨0,86,0,0⟩ _ (fun e=>by cases e) r0_t
 have c1_v:=k1 ⟨0,35,0,0⟩ _ (fun e=>by cases e) c0_v
 have r1_v:=k1 ⟨0,145,0,0⟩ _ (fun e=>by cases e) r0_v
 have d1_4:=k1 ⟨0,4,0,0⟩ _ (fun e=>by cases e) d0_4
 have d1_5:=k1 ⟨0,5,0,0⟩ _ (fun e=>by cases e) d0_5
 have d1_6:=k1 ⟨0,6,0,0⟩ _ (fun e=>by cases e) d0_6
 have d1_9:=k1 ⟨0,9,0,0⟩ _ (fun e=>by cases e) d0_9
 have d1_10:=k1 ⟨0,10,0,0⟩ _ (fun e=>by cases e) d0_10
 have d1_11:=k1 ⟨0,11,0,0⟩ _ (fun e=>by cases e) d0_11
 have w1_x:=k1 ⟨0,54,0,0⟩ _ (fun e=>by cases e) w0_x
 have w1_y:=k1 ⟨0,56,0,0⟩ _ (fun e=>by cases e) w0_y
 clear k1
 simp[c1_u]
 refine az u_1 u_2 u_3 u_4 u_5 u_6 u_7 u_8 u_9 ([]:List Int) ?_ ?_ (by simp) (fun v2 J2 F2 k2=>?_)
 ·exact F1
 ·exact(.inl ⟨rfl,rfl⟩)
 have c2_t:=k2 ⟨0,22,0,0⟩ _ (fun e=>by cases e) c1_t
 have r2_t:=k2 ⟨0,86,0,0⟩ _ (fun e=>by cases e) r1_t
 have c2_v:=k2 ⟨0,35,0,0⟩ _ (fun e=>by cases e) c1_v
 have r2_v:=k2 ⟨0,145,0,0⟩ _ (fun e=>by cases e) r1_v
 have d2_4:=k2 ⟨0,4,0,0⟩ _ (fun e=>by cases e) d1_4
 have d2_5:=k2 ⟨0,5,0,0⟩ _ (fun e=>by cases e) d1_5
 have d2_6:=k2 ⟨0,6,0,0⟩ _ (fun e=>by cases e) d1_6
 have d2_9:=k2 ⟨0,9,0,0⟩ _ (fun e=>by cases e) d1_9
 have d2_10:=k2 ⟨0,10,0,0⟩ _ (fun e=>by cases e) d1_10
 have d2_11:=k2 ⟨0,11,0,0⟩ _ (fun e=>by cases e) d1_11
 have w2_x:=k2 ⟨0,54,0,0⟩ _ (fun e=>by cases e) w1_x
 have w2_y:=k2 ⟨0,56,0,0⟩ _ (fun e=>by cases e) w1_y
 clear k2
 simp[c2_t]
 refine az t_1 t_2 t_3 t_4 t_5 t_6 t_7 t_8 t_9 tl ?_ ?_ btl (fun v3 J3 F3 k3=>?_)
 ·exact F2
 ·exact(.inr ⟨⟨0,86,0,0⟩,none,by simp,r2_t⟩)
 have c3_v:=k3 ⟨0,35,0,0⟩ _ (fun e=>by cases e) c2_v
 have r3_v:=k3 ⟨0,145,0,0⟩ _ (fun e=>by cases e) r2_v
 have d3_4:=k3 ⟨0,4,0,0⟩ _ (fun e=>by cases e) d2_4
 have d3_5:=k3 ⟨0,5,0,0⟩ _ (fun e=>by cases e) d2_5
 have d3_6:=k3 ⟨0,6,0,0⟩ _ (fun e=>by cases e) d2_6
 have d3_9:=k3 ⟨0,9,0,0⟩ _ (fun e=>by cases e) d2_9
 have d3_10:=k3 ⟨0,10,0,0⟩ _ (fun e=>by cases e) d2_10
 have d3_11:=k3 ⟨0,11,0,0⟩ _ (fun e=>by cases e) d2_11
 have w3_x:=k3 ⟨0,54,0,0⟩ _ (fun e=>by cases e) w2_x
 have w3_y:=k3 ⟨0,56,0,0⟩ _ (fun e=>by cases e) w2_y
 clear k3
 simp[c3_v]
 refine az a_1 a_2 a_3 a_4 a_5 a_6 a_7 a_8 a_9 l ?_ ?_ (by omega) (fun v4 J4 F4 k4=>?_)
 ·exact F3
 ·exact(.inr ⟨⟨0,145,0,0⟩,none,by simp,r3_v⟩)
 have d4_4:=k4 ⟨0,4,0,0⟩ _ (fun e=>by cases e) d3_4
 have d4_5:=k4 ⟨0,5,0,0⟩ _ (fun e=>by cases e) d3_5
 have d4_6:=k4 ⟨0,6,0,0⟩ _ (fun e=>by cases e) d3_6
 have d4_9:=k4 ⟨0,9,0,0⟩ _ (fun e=>by cases e) d3_9
 have d4_10:=k4 ⟨0,10,0,0⟩ _ (fun e=>by cases e) d3_10
 have d4_11:=k4 ⟨0,11,0,0⟩ _ (fun e=>by cases e) d3_11
 have w4_x:=k4 ⟨0,54,0,0⟩ _ (fun e=>by cases e) w3_x
 have w4_y:=k4 ⟨0,56,0,0⟩ _ (fun e=>by cases e) w3_y
 clear k4
 simp[d4_4,d4_5,d4_6,d4_9,d4_10,d4_11,w4_x,w4_y,hx.r,hy.r,hz.r,h30',h30'',h34]
set_option maxHeartbeats 4000000 in
theorem rf(a_1:UInt8)(a_2:UInt32)(a_3:UInt8)(a_4:Int)(a_5:Int)(a_6:UInt8)(a_7:UInt32)(a_8:UInt8)(a_9:Int)(b_1:UInt8)(b_2:UInt32)(b_3:UInt8)(b_4:Int)(b_5:Int)(b_6:UInt8)(b_7:UInt32)(b_8:UInt8)(b_9:Int)(o_1:UInt8)(o_2:UInt8)(o_3:UInt32)(o_4:UInt8)(o_5:Int)(o_6:UInt8)(o_7:UInt32)(o_8:UInt8)(o_9:Int)(o_10:Int)(o_11:UInt8)(o_12:UInt32)(o_13:UInt8)(o_14:Int)(o_15:UInt8)(o_16:UInt32)(c_1:UInt8)(c_2:UInt32)(c_3:UInt8)(c_4:Int)(c_5:Int)(c_6:UInt8)(c_7:UInt32)(c_8:UInt8)(c_9:Int)(p_1:UInt8)(p_2:UInt32)(p_3:UInt8)(p_4:Int)(p_5:Int)(p_6:UInt8)(p_7:UInt32)(p_8:UInt8)(p_9:Int)(u_1:UInt8)(u_2:UInt32)(u_3:UInt8)(u_4:Int)(u_5:Int)(u_6:UInt8)(u_7:UInt32)(u_8:UInt8)(u_9:Int)(t_1:UInt8)(t_2:UInt32)(t_3:UInt8)(t_4:Int)(t_5:Int)(t_6:UInt8)(t_7:UInt32)(t_8:UInt8)(t_9:Int)(i_1:UInt8)(i_2:UInt32)(i_3:UInt8)(i_4:Int)(j_1:UInt8)(j_2:UInt32)(j_3:UInt8)(j_4:Int)(n k e1 e2 e3 e4 e5:Int)(same:Bool){x0 x1 x2 y1 y2 y3 y4:AV}{l m q pl ql:List Int}
 (hx:Sl 1 (rows l) x0) (hy:Sl 1 (rows m) x1) (hz:Sl 1 (rows q) x2)
 (nl:rows l≠[]) (gl : ¬(1000:Int)<l.length)
 (nm:rows m≠[]) (gm : ¬(1000:Int)<m.length)
 (nq:rows q≠[]) (gq : ¬(1000:Int)<q.length)
 (npl:rows pl≠[]) (bpl:pl.length<100000)
 (nql:rows ql≠[]) (bql:ql.length<100000)
 (hT1:limf env 24 [.agg [a8 a_1,a32 a_2,a8 a_3,aI a_4,aI a_5,a8 a_6,a32 a_7,a8 a_8,aI a_9,x0]]=some (.agg [a8 a_1,a32 a_2,a8 a_3,aI a_4,aI a_5,a8 a_6,a32 a_7,a8 a_8,aI a_9,(.fsl 1 (rows l) none)])) (hT2:limf env 24 [.agg [a8 b_1,a32 b_2,a8 b_3,aI b_4,aI b_5,a8 b_6,a32 b_7,a8 b_8,aI b_9,x1]]=some (.agg [a8 b_1,a32 b_2,a8 b_3,aI b_4,aI b_5,a8 b_6,a32 b_7,a8 b_8,aI b_9,(.fsl 1 (rows m) none)])) (hT3:limf env 25 [.agg [a8 o_1,a8 o_2,a32 o_3,a8 o_4,aI o_5,a8 o_6,a32 o_7,a8 o_8,aI o_9,aI o_10,a8 o_11,a32 o_12,a8 o_13,aI o_14,a8 o_15,a32 o_16,x2]]=some (.agg [a8 o_1,a8 o_2,a32 o_3,a8 o_4,aI o_5,a8 o_6,a32 o_7,a8 o_8,aI o_9,aI o_10,a8 o_11,a32 o_12,a8 o_13,aI o_14,a8 o_15,a32 o_16,(.isl 1 (rows q) none)]))
 (h23:limf env 23 [.agg [a8 o_1,a8 o_2,a32 o_3,a8 o_4,aI o_5,a8 o_6,a32 o_7,a8 o_8,aI o_9,aI o_10,a8 o_11,a32 o_12,a8 o_13,aI o_14,a8 o_15,a32 o_16,(.isl 1 (rows q) none)]]=some (.tup [.agg [a8 c_1,a32 c_2,a8 c_3,aI c_4,aI c_5,a8 c_6,a32 c_7,a8 c_8,aI c_9,aNil],aI e1])) (h26:limf env 26 [.agg [a8 o_1,a8 o_2,a32 o_3,a8 o_4,aI o_5,a8 o_6,a32 o_7,a8 o_8,aI o_9,aI o_10,a8 o_11,a32 o_12,a8 o_13,aI o_14,a8 o_15,a32 o_16,x2]]=some (.tup [.agg [a8 c_1,a32 c_2,a8 c_3,aI c_4,aI c_5,a8 c_6,a32 c_7,a8 c_8,aI c_9,y1],aI e1])) (s1:Sl 1 (rows ([]:List Int)) y1)
 (h17:limf env 17 [.agg [a8 a_1,a32 a_2,a8 a_3,aI a_4,aI a_5,a8 a_6,a32 a_7,a8 a_8,aI a_9,(.isl 1 (rows l) none)],aI n]=some (.tup [.agg [a8 p_1,a32 p_2,a8 p_3,aI p_4,aI p_5,a8 p_6,a32 p_7,a8 p_8,aI p_9,(.fsl 1 (rows pl) none)],.agg [a8 u_1,a32 u_2,a8 u_3,aI u_4,aI u_5,a8 u_6,a32 u_7,a8 u_8,aI u_9,(.fsl 1 (rows ql) none)],aI e2])) (h27:limf env 27 [.agg [a8 a_1,a32 a_2,a8 a_3,aI a_4,aI a_5,a8 a_6,a32 a_7,a8 a_8,aI a_9,x0],aI n]=some (.tup [.agg [a8 p_1,a32 p_2,a8 p_3,aI p_4,aI p_5,a8 p_6,a32 p_7,a8 p_8,aI p_9,y2],.agg [a8 u_1,a32 u_2,a8 u_3,aI u_4,aI u_5,a8 u_6,a32 u_7,a8 u_8,aI u_9,y3],aI e2])) (s2:Sl 1 (rows pl) y2) (s3:Sl 1 (rows ql) y3)
 (h16:limf env 16 [.agg [a8 a_1,a32 a_2,a8 a_3,aI a_4,aI a_5,a8 a_6,a32 a_7,a8 a_8,aI a_9,(.isl 1 (rows l) none)],.agg [a8 b_1,a32 b_2,a8 b_3,aI b_4,aI b_5,a8 b_6,a32 b_7,a8 b_8,aI b_9,(.isl 1 (rows m) none)]]=some (.tup [.agg [a8 t_1,a32 t_2,a8 t_3,aI t_4,aI t_5,a8 t_6,a32 t_7,a8 t_8,aI t_9,aNil],aI e3])) (h28:limf env 28 [.agg [a8 a_1,a32 a_2,a8 a_3,aI a_4,aI a_5,a8 a_6,a32 a_7,a8 a_8,aI a_9,x0],.agg [a8 b_1,a32 b_2,a8 b_3,aI b_4,aI b_5,a8 b_6,a32 b_7,a8 b_8,aI b_9,x1]]=some (.tup [.agg [a8 t_1,a32 t_2,a8 t_3,aI t_4,aI t_5,a8 t_6,a32 t_7,a8 t_8,aI t_9,y4],aI e3])) (s4:Sl 1 (rows ([]:List Int)) y4)
 (h20:limf env 20 [.agg [a8 a_1,a32 a_2,a8 a_3,aI a_4,aI a_5,a8 a_6,a32 a_7,a8 a_8,aI a_9,(.isl 1 (rows l) none)],aI n]=some (.tup [.agg [a8 i_1,a32 i_2,a8 i_3,aI i_4],.agg [a8 j_1,a32 j_2,a8 j_3,aI j_4],.v (.int .i32 k),aI e4])) (h29:limf env 29 [.agg [a8 a_1,a32 a_2,a8 a_3,aI a_4,aI a_5,a8 a_6,a32 a_7,a8 a_8,aI a_9,x0],aI n]=some (.tup [.agg [a8 i_1,a32 i_2,a8 i_3,aI i_4],.agg [a8 j_1,a32 j_2,a8 j_3,aI j_4],.v (.int .i32 k),aI e4]))
 (h31:limf env 31 [.agg [a8 a_1,a32 a_2,a8 a_3,aI a_4,aI a_5,a8 a_6,a32 a_7,a8 a_8,aI a_9,(.isl 1 (rows l) none)]]=some (.agg [a8 a_1,a32 a_2,a8 a_3,aI a_4,aI a_5,a8 a_6,a32 a_7,a8 a_8,aI a_9,(.fsl 1 (rows l) none)]))
 (hS1:limf env 30 [.agg [a8 c_1,a32 c_2,a8 c_3,aI c_4,aI c_5,a8 c_6,a32 c_7,a8 c_8,aI c_9,aNil],.agg [a8 c_1,a32 c_2,a8 c_3,aI c_4,aI c_5,a8 c_6,a32 c_7,a8 c_8,aI c_9,y1]]=some (aB true)) (hS2:limf env 30 [.agg [a8 p_1,a32 p_2,a8 p_3,aI p_4,aI p_5,a8 p_6,a32 p_7,a8 p_8,aI p_9,(.isl 1 (rows pl) none)],.agg [a8 p_1,a32 p_2,a8 p_3,aI p_4,aI p_5,a8 p_6,a32 p_7,a8 p_8,aI p_9,y2]]=some (aB true)) (hS3:limf env 30 [.agg [a8 u_1,a32 u_2,a8 u_3,aI u_4,aI u_5,a8 u_6,a32 u_7,a8 u_8,aI u_9,(.isl 1 (rows ql) none)],.agg [a8 u_1,a32 u_2,a8 u_3,aI u_4,aI u_5,a8 u_6,a32 u_7,a8 u_8,aI u_9,y3]]=some (aB true)) (hS4:limf env 30 [.agg [a8 t_1,a32 t_2,a8 t_3,aI t_4,aI t_5,a8 t_6,a32 t_7,a8 t_8,aI t_9,aNil],.agg [a8 t_1,a32 t_2,a8 t_3,aI t_4,aI t_5,a8 t_6,a32 t_7,a8 t_8,aI t_9,y4]]=some (aB true))
 (h19:limf env 19 [.agg [a8 a_1,a32 a_2,a8 a_3,aI a_4,aI a_5,a8 a_6,a32 a_7,a8 a_8,aI a_9,(.isl 1 (rows l) none)]]=some (aI e5)) (h32:limf env 32 [.agg [a8 a_1,a32 a_2,a8 a_3,aI a_4,aI a_5,a8 a_6,a32 a_7,a8 a_8,aI a_9,x0]]=some (aI e5)) (h18:limf env 18 [.agg [a8 a_1,a32 a_2,a8 a_3,aI a_4,aI a_5,a8 a_6,a32 a_7,a8 a_8,aI a_9,(.isl 1 (rows l) none)],.agg [a8 b_1,a32 b_2,a8 b_3,aI b_4,aI b_5,a8 b_6,a32 b_7,a8 b_8,aI b_9,(.isl 1 (rows m) none)]]=some (aB same)) (h30:limf env 30 [.agg [a8 a_1,a32 a_2,a8 a_3,aI a_4,aI a_5,a8 a_6,a32 a_7,a8 a_8,aI a_9,x0],.agg [a8 b_1,a32 b_2,a8 b_3,aI b_4,aI b_5,a8 b_6,a32 b_7,a8 b_8,aI b_9,x1]]=some (aB same)) (h18':limf env 18 [.agg [a8 a_1,a32 a_2,a8 a_3,aI a_4,aI a_5,a8 a_6,a32 a_7,a8 a_8,aI a_9,(.isl 1 (rows l) none)],.agg [a8 a_1,a32 a_2,a8 a_3,aI a_4,aI a_5,a8 a_6,a32 a_7,a8 a_8,aI a_9,x0]]=some (aB true)) (h30':limf env 30 [.agg [a8 a_1,a32 a_2,a8 a_3,aI a_4,aI a_5,a8 a_6,a32 a_7,a8 a_8,aI a_9,(.isl 1 (rows l) none)],.agg [a8 a_1,a32 a_2,a8 a_3,aI a_4,aI a_5,a8 a_6,a32 a_7,a8 a_8,aI a_9,x0]]=some (aB true)) (h30'':limf env 30 [.agg [a8 b_1,a32 b_2,a8 b_3,aI b_4,aI b_5,a8 b_6,a32 b_7,a8 b_8,aI b_9,(.isl 1 (rows m) none)],.agg [a8 b_1,a32 b_2,a8 b_3,aI b_4,aI b_5,a8 b_6,a32 b_7,a8 b_8,aI b_9,x1]]=some (aB true)) (h34:limf env 34 [.agg [a8 o_1,a8 o_2,a32 o_3,a8 o_4,aI o_5,a8 o_6,a32 o_7,a8 o_8,aI o_9,aI o_10,a8 o_11,a32 o_12,a8 o_13,aI o_14,a8 o_15,a32 o_16,(.isl 1 (rows q) none)],.agg [a8 o_1,a8 o_2,a32 o_3,a8 o_4,aI o_5,a8 o_6,a32 o_7,a8 o_8,aI o_9,aI o_10,a8 o_11,a32 o_12,a8 o_13,aI o_14,a8 o_15,a32 o_16,x2]]=some (aB true)) :
 limf env 6 [.agg [a8 a_1,a32 a_2,a8 a_3,aI a_4,aI a_5,a8 a_6,a32 a_7,a8 a_8,aI a_9,x0],.agg [a8 b_1,a32 b_2,a8 b_3,aI b_4,aI b_5,a8 b_6,a32 b_7,a8 b_8,aI b_9,x1],.agg [a8 o_1,a8 o_2,a32 o_3,a8 o_4,aI o_5,a8 o_6,a32 o_7,a8 o_8,aI o_9,aI o_10,a8 o_11,a32 o_12,a8 o_13,aI o_14,a8 o_15,a32 o_16,x2],aI n]=some (aB true):=by
 have hF1:=fun H r=>aG (H:=H) (f:=24) (by kernel_rfl) false 0 r (args:=[.agg [a8 a_1,a32 a_2,a8 a_3,aI a_4,aI a_5,a8 a_6,a32 a_7,a8 a_8,aI a_9,x0]]) (by simp[hx.r]) (by simp[hx.r]) hT1
 have hF2:=fun H r=>aG (H:=H) (f:=24) (by kernel_rfl) false 0 r (args:=[.agg [a8 b_1,a32 b_2,a8 b_3,aI b_4,aI b_5,a8 b_6,a32 b_7,a8 b_8,aI b_9,x1]]) (by simp[hy.r]) (by simp[hy.r]) hT2
 have fpl:=aF pl
 have fql:=aF ql
 have fl:=aF l
 clear hT1 hT2
 refine aC (fn:=Try.f6) (c:=ai) rfl (by kernel_rfl) (by kernel_rfl) (by kernel_rfl) (by kernel_rfl) ?_;refine aq _ _ _ _ _ _ fun g=>?_
 simp[ar,au,ae,af,ab, *,aj,hx.r,hy.r,hz.r,s1.r,s2.r,s3.r,s4.r,frzB,eqA,eqFs]
 refine az c_1 c_2 c_3 c_4 c_5 c_6 c_7 c_8 c_9 ([]:List Int) ?_ ?_ (by simp) (fun v0 J0 F0 k0=>?_)
 ·exact bz rfl
 ·exact(.inl ⟨rfl,rfl⟩)
 have c0_p:=k0 ⟨0,16,0,0⟩ _ (fun e=>by cases e) rfl
 have r0_p:=k0 ⟨0,72,0,0⟩ _ (fun e=>by cases e) rfl
 have c0_u:=k0 ⟨0,17,0,0⟩ _ (fun e=>by cases e) rfl
 have r0_u:=k0 ⟨0,72,0,1⟩ _ (fun e=>by cases e) rfl
 have c0_t:=k0 ⟨0,22,0,0⟩ _ (fun e=>by cases e) rfl
 have c0_v:=k0 ⟨0,35,0,0⟩ _ (fun e=>by cases e) rfl
 have r0_v:=k0 ⟨0,145,0,0⟩ _ (fun e=>by cases e) rfl
 have d0_4:=k0 ⟨0,4,0,0⟩ _ (fun e=>by cases e) rfl
 have d0_5:=k0 ⟨0,5,0,0⟩ _ (fun e=>by cases e) rfl
 have d0_6:=k0 ⟨0,6,0,0⟩ _ (fun e=>by cases e) rfl
 have d0_9:=k0 ⟨0,9,0,0⟩ _ (fun e=>by cases e) rfl
 have d0_10:=k0 ⟨0,10,0,0⟩ _ (fun e=>by cases e) rfl
 have d0_11:=k0 ⟨0,11,0,0⟩ _ (fun e=>by cases e) rfl
 have w0_x:=k0 ⟨0,54,0,0⟩ _ (fun e=>by cases e) rfl
 have w0_y:=k0 ⟨0,56,0,0⟩ _ (fun e=>by cases e) rfl
 clear k0
 simp[c0_p]
 refine az p_1 p_2 p_3 p_4 p_5 p_6 p_7 p_8 p_9 pl ?_ ?_ bpl (fun v1 J1 F1 k1=>?_)
 ·exact F0
 ·exact(.inr ⟨⟨0,72,0,0⟩,none,by simp,r0_p⟩)
 have c1_u:=k1 ⟨0,17,0,0⟩ _ (fun e=>by cases e) c0_u
 have r1_u:=k1 ⟨0,72,0,1⟩ _ (fun e=>by cases e) r0_u
 have c1_t:=k1 ⟨0,22,0,0⟩ _ (fun e=>by cases e) c0_t
 have c1_v:=k1 ⟨0,35,0,0⟩ _ (fun e=>by cases e) c0_v
 have r1_v:=k1 ⟨0,145,0,0⟩ _ (fun e=>by cases e) r0_v
 have d1_4:=k1 ⟨0,4,0,0⟩ _ (fun e=>by cases e) d0_4
 have d1_5:=k1 ⟨0,5,0,0⟩ _ (fun e=>by cases e) d0_5
 have d1_6:=k1 ⟨0,6,0,0⟩ _ (fun e=>by cases e) d0_6
 have d1_9:=k1 ⟨0,9,0,0⟩ _ (fun e=>by cases e) d0_9
 have d1_10:=k1 ⟨0,10,0,0⟩ _ (fun e=>by cases e) d0_10
 have d1_11:=k1 ⟨0,11,0,0⟩ _ (fun e=>by cases e) d0_11
 have w1_x:=k1 ⟨0,54,0,0⟩ _ (fun e=>by cases e) w0_x
 have w1_y:=k1 ⟨0,56,0,0⟩ _ (fun e=>by cases e) w0_y
 clear k1
 simp[c1_u]
 refine az u_1 u_2 u_3 u_4 u_5 u_6 u_7 u_8 u_9 ql ?_ ?_ bql (fun v2 J2 F2 k2=>?_)
 ·exact F1
 ·exact(.inr ⟨⟨0,72,0,1⟩,none,by simp,r1_u⟩)
 have c2_t:=k2 ⟨0,22,0,0⟩ _ (fun e=>by cases e) c1_t
 have c2_v:=k2 ⟨0,35,0,0⟩ _ (fun e=>by cases e) c1_v
 have r2_v:=k2 ⟨0,145,0,0⟩ _ (fun e=>by cases e) r1_v
 have d2_4:=k2 ⟨0,4,0,0⟩ _ (fun e=>by cases e) d1_4
 have d2_5:=k2 ⟨0,5,0,0⟩ _ (fun e=>by cases e) d1_5
 have d2_6:=k2 ⟨0,6,0,0⟩ _ (fun e=>by cases e) d1_6
 have d2_9:=k2 ⟨0,9,0,0⟩ _ (fun e=>by cases e) d1_9
 have d2_10:=k2 ⟨0,10,0,0⟩ _ (fun e=>by cases e) d1_10
 have d2_11:=k2 ⟨0,11,0,0⟩ _ (fun e=>by cases e) d1_11
 have w2_x:=k2 ⟨0,54,0,0⟩ _ (fun e=>by cases e) w1_x
 have w2_y:=k2 ⟨0,56,0,0⟩ _ (fun e=>by cases e) w1_y
 clear k2
 simp[c2_t]
 refine az t_1 t_2 t_3 t_4 t_5 t_6 t_7 t_8 t_9 ([]:List Int) ?_ ?_ (by simp) (fun v3 J3 F3 k3=>?_)
 ·exact F2
 ·exact(.inl ⟨rfl,rfl⟩)
 have c3_v:=k3 ⟨0,35,0,0⟩ _ (fun e=>by cases e) c2_v
 have r3_v:=k3 ⟨0,145,0,0⟩ _ (fun e=>by cases e) r2_v
 have d3_4:=k3 ⟨0,4,0,0⟩ _ (fun e=>by cases e) d2_4
 have d3_5:=k3 ⟨0,5,0,0⟩ _ (fun e=>by cases e) d2_5
 have d3_6:=k3 ⟨0,6,0,0⟩ _ (fun e=>by cases e) d2_6
 have d3_9:=k3 ⟨0,9,0,0⟩ _ (fun e=>by cases e) d2_9
 have d3_10:=k3 ⟨0,10,0,0⟩ _ (fun e=>by cases e) d2_10
 have d3_11:=k3 ⟨0,11,0,0⟩ _ (fun e=>by cases e) d2_11
 have w3_x:=k3 ⟨0,54,0,0⟩ _ (fun e=>by cases e) w2_x
 have w3_y:=k3 ⟨0,56,0,0⟩ _ (fun e=>by cases e) w2_y
 clear k3
 simp[c3_v]
 refine az a_1 a_2 a_3 a_4 a_5 a_6 a_7 a_8 a_9 l ?_ ?_ (by omega) (fun v4 J4 F4 k4=>?_)
 ·exact F3
 ·exact(.inr ⟨⟨0,145,0,0⟩,none,by simp,r3_v⟩)
 have d4_4:=k4 ⟨0,4,0,0⟩ _ (fun e=>by cases e) d3_4
 have d4_5:=k4 ⟨0,5,0,0⟩ _ (fun e=>by cases e) d3_5
 have d4_6:=k4 ⟨0,6,0,0⟩ _ (fun e=>by cases e) d3_6
 have d4_9:=k4 ⟨0,9,0,0⟩ _ (fun e=>by cases e) d3_9
 have d4_10:=k4 ⟨0,10,0,0⟩ _ (fun e=>by cases e) d3_10
 have d4_11:=k4 ⟨0,11,0,0⟩ _ (fun e=>by cases e) d3_11
 have w4_x:=k4 ⟨0,54,0,0⟩ _ (fun e=>by cases e) w3_x
 have w4_y:=k4 ⟨0,56,0,0⟩ _ (fun e=>by cases e) w3_y
 clear k4
 simp[d4_4,d4_5,d4_6,d4_9,d4_10,d4_11,w4_x,w4_y,hx.r,hy.r,hz.r,h30',h30'',h34]
set_option maxHeartbeats 4000000 in
theorem re(a_1:UInt8)(a_2:UInt32)(a_3:UInt8)(a_4:Int)(a_5:Int)(a_6:UInt8)(a_7:UInt32)(a_8:UInt8)(a_9:Int)(b_1:UInt8)(b_2:UInt32)(b_3:UInt8)(b_4:Int)(b_5:Int)(b_6:UInt8)(b_7:UInt32)(b_8:UInt8)(b_9:Int)(o_1:UInt8)(o_2:UInt8)(o_3:UInt32)(o_4:UInt8)(o_5:Int)(o_6:UInt8)(o_7:UInt32)(o_8:UInt8)(o_9:Int)(o_10:Int)(o_11:UInt8)(o_12:UInt32)(o_13:UInt8)(o_14:Int)(o_15:UInt8)(o_16:UInt32)(c_1:UInt8)(c_2:UInt32)(c_3:UInt8)(c_4:Int)(c_5:Int)(c_6:UInt8)(c_7:UInt32)(c_8:UInt8)(c_9:Int)(p_1:UInt8)(p_2:UInt32)(p_3:UInt8)(p_4:Int)(p_5:Int)(p_6:UInt8)(p_7:UInt32)(p_8:UInt8)(p_9:Int)(u_1:UInt8)(u_2:UInt32)(u_3:UInt8)(u_4:Int)(u_5:Int)(u_6:UInt8)(u_7:UInt32)(u_8:UInt8)(u_9:Int)(t_1:UInt8)(t_2:UInt32)(t_3:UInt8)(t_4:Int)(t_5:Int)(t_6:UInt8)(t_7:UInt32)(t_8:UInt8)(t_9:Int)(i_1:UInt8)(i_2:UInt32)(i_3:UInt8)(i_4:Int)(j_1:UInt8)(j_2:UInt32)(j_3:UInt8)(j_4:Int)(n k e1 e2 e3 e4 e5:Int)(same:Bool){x0 x1 x2 y1 y2 y3 y4:AV}{l m q pl ql tl:List Int}
 (hx:Sl 1 (rows l) x0) (hy:Sl 1 (rows m) x1) (hz:Sl 1 (rows q) x2)
 (nl:rows l≠[]) (gl : ¬(1000:Int)<l.length)
 (nm:rows m≠[]) (gm : ¬(1000:Int)<m.length)
 (nq:rows q≠[]) (gq : ¬(1000:Int)<q.length)
 (npl:rows pl≠[]) (bpl:pl.length<100000)
 (nql:rows ql≠[]) (bql:ql.length<100000)
 (ntl:rows tl≠[]) (btl:tl.length<100000)
 (hT1:limf env 24 [.agg [a8 a_1,a32 a_2,a8 a_3,aI a_4,aI a_5,a8 a_6,a32 a_7,a8 a_8,aI a_9,x0]]=some (.agg [a8 a_1,a32 a_2,a8 a_3,aI a_4,aI a_5,a8 a_6,a32 a_7,a8 a_8,aI a_9,(.fsl 1 (rows l) none)])) (hT2:limf env 24 [.agg [a8 b_1,a32 b_2,a8 b_3,aI b_4,aI b_5,a8 b_6,a32 b_7,a8 b_8,aI b_9,x1]]=some (.agg [a8 b_1,a32 b_2,a8 b_3,aI b_4,aI b_5,a8 b_6,a32 b_7,a8 b_8,aI b_9,(.fsl 1 (rows m) none)])) (hT3:limf env 25 [.agg [a8 o_1,a8 o_2,a32 o_3,a8 o_4,aI o_5,a8 o_6,a32 o_7,a8 o_8,aI o_9,aI o_10,a8 o_11,a32 o_12,a8 o_13,aI o_14,a8 o_15,a32 o_16,x2]]=some (.agg [a8 o_1,a8 o_2,a32 o_3,a8 o_4,aI o_5,a8 o_6,a32 o_7,a8 o_8,aI o_9,aI o_10,a8 o_11,a32 o_12,a8 o_13,aI o_14,a8 o_15,a32 o_16,(.isl 1 (rows q) none)]))
 (h23:limf env 23 [.agg [a8 o_1,a8 o_2,a32 o_3,a8 o_4,aI o_5,a8 o_6,a32 o_7,a8 o_8,aI o_9,aI o_10,a8 o_11,a32 o_12,a8 o_13,aI o_14,a8 o_15,a32 o_16,(.isl 1 (rows q) none)]]=some (.tup [.agg [a8 c_1,a32 c_2,a8 c_3,aI c_4,aI c_5,a8 c_6,a32 c_7,a8 c_8,aI c_9,aNil],aI e1])) (h26:limf env 26 [.agg [a8 o_1,a8 o_2,a32 o_3,a8 o_4,aI o_5,a8 o_6,a32 o_7,a8 o_8,aI o_9,aI o_10,a8 o_11,a32 o_12,a8 o_13,aI o_14,a8 o_15,a32 o_16,x2]]=some (.tup [.agg [a8 c_1,a32 c_2,a8 c_3,aI c_4,aI c_5,a8 c_6,a32 c_7,a8 c_8,aI c_9,y1],aI e1])) (s1:Sl 1 (rows ([]:List Int)) y1)
 (h17:limf env 17 [.agg [a8 a_1,a32 a_2,a8 a_3,aI a_4,aI a_5,a8 a_6,a32 a_7,a8 a_8,aI a_9,(.isl 1 (rows l) none)],aI n]=some (.tup [.agg [a8 p_1,a32 p_2,a8 p_3,aI p_4,aI p_5,a8 p_6,a32 p_7,a8 p_8,aI p_9,(.fsl 1 (rows pl) none)],.agg [a8 u_1,a32 u_2,a8 u_3,aI u_4,aI u_5,a8 u_6,a32 u_7,a8 u_8,aI u_9,(.fsl 1 (rows ql) none)],aI e2])) (h27:limf env 27 [.agg [a8 a_1,a32 a_2,a8 a_3,aI a_4,aI a_5,a8 a_6,a32 a_7,a8 a_8,aI a_9,x0],aI n]=some (.tup [.agg [a8 p_1,a32 p_2,a8 p_3,aI p_4,aI p_5,a8 p_6,a32 p_7,a8 p_8,aI p_9,y2],.agg [a8 u_1,a32 u_2,a8 u_3,aI u_4,aI u_5,a8 u_6,a32 u_7,a8 u_8,aI u_9,y3],aI e2])) (s2:Sl 1 (rows pl) y2) (s3:Sl 1 (rows ql) y3)
 (h16:limf env 16 [.agg [a8 a_1,a32 a_2,a8 a_3,aI a_4,aI a_5,a8 a_6,a32 a_7,a8 a_8,aI a_9,(.isl 1 (rows l) none)],.agg [a8 b_1,a32 b_2,a8 b_3,aI b_4,aI b_5,a8 b_6,a32 b_7,a8 b_8,aI b_9,(.isl 1 (rows m) none)]]=some (.tup [.agg [a8 t_1,a32 t_2,a8 t_3,aI t_4,aI t_5,a8 t_6,a32 t_7,a8 t_8,aI t_9,(.fsl 1 (rows tl) none)],aI e3])) (h28:limf env 28 [.agg [a8 a_1,a32 a_2,a8 a_3,aI a_4,aI a_5,a8 a_6,a32 a_7,a8 a_8,aI a_9,x0],.agg [a8 b_1,a32 b_2,a8 b_3,aI b_4,aI b_5,a8 b_6,a32 b_7,a8 b_8,aI b_9,x1]]=some (.tup [.agg [a8 t_1,a32 t_2,a8 t_3,aI t_4,aI t_5,a8 t_6,a32 t_7,a8 t_8,aI t_9,y4],aI e3])) (s4:Sl 1 (rows tl) y4)
 (h20:limf env 20 [.agg [a8 a_1,a32 a_2,a8 a_3,aI a_4,aI a_5,a8 a_6,a32 a_7,a8 a_8,aI a_9,(.isl 1 (rows l) none)],aI n]=some (.tup [.agg [a8 i_1,a32 i_2,a8 i_3,aI i_4],.agg [a8 j_1,a32 j_2,a8 j_3,aI j_4],.v (.int .i32 k),aI e4])) (h29:limf env 29 [.agg [a8 a_1,a32 a_2,a8 a_3,aI a_4,aI a_5,a8 a_6,a32 a_7,a8 a_8,aI a_9,x0],aI n]=some (.tup [.agg [a8 i_1,a32 i_2,a8 i_3,aI i_4],.agg [a8 j_1,a32 j_2,a8 j_3,aI j_4],.v (.int .i32 k),aI e4]))
 (h31:limf env 31 [.agg [a8 a_1,a32 a_2,a8 a_3,aI a_4,aI a_5,a8 a_6,a32 a_7,a8 a_8,aI a_9,(.isl 1 (rows l) none)]]=some (.agg [a8 a_1,a32 a_2,a8 a_3,aI a_4,aI a_5,a8 a_6,a32 a_7,a8 a_8,aI a_9,(.fsl 1 (rows l) none)]))
 (hS1:limf env 30 [.agg [a8 c_1,a32 c_2,a8 c_3,aI c_4,aI c_5,a8 c_6,a32 c_7,a8 c_8,aI c_9,aNil],.agg [a8 c_1,a32 c_2,a8 c_3,aI c_4,aI c_5,a8 c_6,a32 c_7,a8 c_8,aI c_9,y1]]=some (aB true)) (hS2:limf env 30 [.agg [a8 p_1,a32 p_2,a8 p_3,aI p_4,aI p_5,a8 p_6,a32 p_7,a8 p_8,aI p_9,(.isl 1 (rows pl) none)],.agg [a8 p_1,a32 p_2,a8 p_3,aI p_4,aI p_5,a8 p_6,a32 p_7,a8 p_8,aI p_9,y2]]=some (aB true)) (hS3:limf env 30 [.agg [a8 u_1,a32 u_2,a8 u_3,aI u_4,aI u_5,a8 u_6,a32 u_7,a8 u_8,aI u_9,(.isl 1 (rows ql) none)],.agg [a8 u_1,a32 u_2,a8 u_3,aI u_4,aI u_5,a8 u_6,a32 u_7,a8 u_8,aI u_9,y3]]=some (aB true)) (hS4:limf env 30 [.agg [a8 t_1,a32 t_2,a8 t_3,aI t_4,aI t_5,a8 t_6,a32 t_7,a8 t_8,aI t_9,(.isl 1 (rows tl) none)],.agg [a8 t_1,a32 t_2,a8 t_3,aI t_4,aI t_5,a8 t_6,a32 t_7,a8 t_8,aI t_9,y4]]=some (aB true))
 (h19:limf env 19 [.agg [a8 a_1,a32 a_2,a8 a_3,aI a_4,aI a_5,a8 a_6,a32 a_7,a8 a_8,aI a_9,(.isl 1 (rows l) none)]]=some (aI e5)) (h32:limf env 32 [.agg [a8 a_1,a32 a_2,a8 a_3,aI a_4,aI a_5,a8 a_6,a32 a_7,a8 a_8,aI a_9,x0]]=some (aI e5)) (h18:limf env 18 [.agg [a8 a_1,a32 a_2,a8 a_3,aI a_4,aI a_5,a8 a_6,a32 a_7,a8 a_8,aI a_9,(.isl 1 (rows l) none)],.agg [a8 b_1,a32 b_2,a8 b_3,aI b_4,aI b_5,a8 b_6,a32 b_7,a8 b_8,aI b_9,(.isl 1 (rows m) none)]]=some (aB same)) (h30:limf env 30 [.agg [a8 a_1,a32 a_2,a8 a_3,aI a_4,aI a_5,a8 a_6,a32 a_7,a8 a_8,aI a_9,x0],.agg [a8 b_1,a32 b_2,a8 b_3,aI b_4,aI b_5,a8 b_6,a32 b_7,a8 b_8,aI b_9,x1]]=some (aB same)) (h18':limf env 18 [.agg [a8 a_1,a32 a_2,a8 a_3,aI a_4,aI a_5,a8 a_6,a32 a_7,a8 a_8,aI a_9,(.isl 1 (rows l) none)],.agg [a8 a_1,a32 a_2,a8 a_3,aI a_4,aI a_5,a8 a_6,a32 a_7,a8 a_8,aI a_9,x0]]=some (aB true)) (h30':limf env 30 [.agg [a8 a_1,a32 a_2,a8 a_3,aI a_4,aI a_5,a8 a_6,a32 a_7,a8 a_8,aI a_9,(.isl 1 (rows l) none)],.agg [a8 a_1,a32 a_2,a8 a_3,aI a_4,aI a_5,a8 a_6,a32 a_7,a8 a_8,aI a_9,x0]]=some (aB true)) (h30'':limf env 30 [.agg [a8 b_1,a32 b_2,a8 b_3,aI b_4,aI b_5,a8 b_6,a32 b_7,a8 b_8,aI b_9,(.isl 1 (rows m) none)],.agg [a8 b_1,a32 b_2,a8 b_3,aI b_4,aI b_5,a8 b_6,a32 b_7,a8 b_8,aI b_9,x1]]=some (aB true)) (h34:limf env 34 [.agg [a8 o_1,a8 o_2,a32 o_3,a8 o_4,aI o_5,a8 o_6,a32 o_7,a8 o_8,aI o_9,aI o_10,a8 o_11,a32 o_12,a8 o_13,aI o_14,a8 o_15,a32 o_16,(.isl 1 (rows q) none)],.agg [a8 o_1,a8 o_2,a32 o_3,a8 o_4,aI o_5,a8 o_6,a32 o_7,a8 o_8,aI o_9,aI o_10,a8 o_11,a32 o_12,a8 o_13,aI o_14,a8 o_15,a32 o_16,x2]]=some (aB true)) :
 limf env 6 [.agg [a8 a_1,a32 a_2,a8 a_3,aI a_4,aI a_5,a8 a_6,a32 a_7,a8 a_8,aI a_9,x0],.agg [a8 b_1,a32 b_2,a8 b_3,aI b_4,aI b_5,a8 b_6,a32 b_7,a8 b_8,aI b_9,x1],.agg [a8 o_1,a8 o_2,a32 o_3,a8 o_4,aI o_5,a8 o_6,a32 o_7,a8 o_8,aI o_9,aI o_10,a8 o_11,a32 o_12,a8 o_13,aI o_14,a8 o_15,a32 o_16,x2],aI n]=some (aB true):=by
 have hF1:=fun H r=>aG (H:=H) (f:=24) (by kernel_rfl) false 0 r (args:=[.agg [a8 a_1,a32 a_2,a8 a_3,aI a_4,aI a_5,a8 a_6,a32 a_7,a8 a_8,aI a_9,x0]]) (by simp[hx.r]) (by simp[hx.r]) hT1
 have hF2:=fun H r=>aG (H:=H) (f:=24) (by kernel_rfl) false 0 r (args:=[.agg [a8 b_1,a32 b_2,a8 b_3,aI b_4,aI b_5,a8 b_6,a32 b_7,a8 b_8,aI b_9,x1]]) (by simp[hy.r]) (by simp[hy.r]) hT2
 have fpl:=aF pl
 have fql:=aF ql
 have ftl:=aF tl
 have fl:=aF l
 clear hT1 hT2
 refine aC (fn:=Try.f6) (c:=ai) rfl (by kernel_rfl) (by kernel_rfl) (by kernel_rfl) (by kernel_rfl) ?_;refine aq _ _ _ _ _ _ fun g=>?_
 simp[ar,au,ae,af,ab, *,aj,hx.r,hy.r,hz.r,s1.r,s2.r,s3.r,s4.r,frzB,eqA,eqFs]
 refine az c_1 c_2 c_3 c_4 c_5 c_6 c_7 c_8 c_9 ([]:List Int) ?_ ?_ (by simp) (fun v0 J0 F0 k0=>?_)
 ·exact bz rfl
 ·exact(.inl ⟨rfl,rfl⟩)
 have c0_p:=k0 ⟨0,16,0,0⟩ _ (fun e=>by cases e) rfl
 have r0_p:=k0 ⟨0,72,0,0⟩ _ (fun e=>by cases e) rfl
 have c0_u:=k0 ⟨0,17,0,0⟩ _ (fun e=>by cases e) rfl
 have r0_u:=k0 ⟨0,72,0,1⟩ _ (fun e=>by cases e) rfl
 have c0_t:=k0 ⟨0,22,0,0⟩ _ (fun e=>by cases e) rfl
 have r0_t:=k0 ⟨0,86,0,0⟩ _ (fun e=>by cases e) rfl
 have c0_v:=k0 ⟨0,35,0,0⟩ _ (fun e=>by cases e) rfl
 have r0_v:=k0 ⟨0,145,0,0⟩ _ (fun e=>by cases e) rfl
 have d0_4:=k0 ⟨0,4,0,0⟩ _ (fun e=>by cases e) rfl
 have d0_5:=k0 ⟨0,5,0,0⟩ _ (fun e=>by cases e) rfl
 have d0_6:=k0 ⟨0,6,0,0⟩ _ (fun e=>by cases e) rfl
 have d0_9:=k0 ⟨0,9,0,0⟩ _ (fun e=>by cases e) rfl
 have d0_10:=k0 ⟨0,10,0,0⟩ _ (fun e=>by cases e) rfl
 have d0_11:=k0 ⟨0,11,0,0⟩ _ (fun e=>by cases e) rfl
 have w0_x:=k0 ⟨0,54,0,0⟩ _ (fun e=>by cases e) rfl
 have w0_y:=k0 ⟨0,56,0,0⟩ _ (fun e=>by cases e) rfl
 clear k0
 simp[c0_p]
 refine az p_1 p_2 p_3 p_4 p_5 p_6 p_7 p_8 p_9 pl ?_ ?_ bpl (fun v1 J1 F1 k1=>?_)
 ·exact F0
 ·exact(.inr ⟨⟨0,72,0,0⟩,none,by simp,r0_p⟩)
 have c1_u:=k1 ⟨0,17,0,0⟩ _ (fun e=>by cases e) c0_u
 have r1_u:=k1 ⟨0,72,0,1⟩ _ (fun e=>by cases e) r0_u
 have c1_t:=k1 ⟨0,22,0,0⟩ _ (fun e=>by cases e) c0_t
 have r1_t:=k1 ⟨0,86,0,0⟩ _ (fun e=>by cases e) r0_t
 have c1_v:=k1 ⟨0,35,0,0⟩ _ (fun e=>by cases e) c0_v
 have r1_v:=k1 ⟨0,145,0,0⟩ _ (fun e=>by cases e) r0_v
 have d1_4:=k1 ⟨0,4,0,0⟩ _ (fun e=>by cases e) d0_4
 have d1_5:=k1 ⟨0,5,0,0⟩ _ (fun e=>by cases e) d0_5
 have d1_6:=k1 ⟨0,6,0,0⟩ _ (fun e=>by cases e) d0_6
 have d1_9:=k1 ⟨0,9,0,0⟩ _ (fun e=>by cases e) d0_9
 have d1_10:=k1 ⟨0,10,0,0⟩ _ (fun e=>by cases e) d0_10
 have d1_11:=k1 ⟨0,11,0,0⟩ _ (fun e=>by cases e) d0_11
 have w1_x:=k1 ⟨0,54,0,0⟩ _ (fun e=>by cases e) w0_x
 have w1_y:=k1 ⟨0,56,0,0⟩ _ (fun e=>by cases e) w0_y
 clear k1
 simp[c1_u]
 refine az u_1 u_2 u_3 u_4 u_5 u_6 u_7 u_8 u_9 ql ?_ ?_ bql (fun v2 J2 F2 k2=>?_)
 ·exact F1
 ·exact(.inr ⟨⟨0,72,0,1⟩,none,by simp,r1_u⟩)
 have c2_t:=k2 ⟨0,22,0,0⟩ _ (fun e=>by cases e) c1_t
 have r2_t:=k2 ⟨0,86,0,0⟩ _ (fun e=>by cases e) r1_t
 have c2_v:=k2 ⟨0,35,0,0⟩ _ (fun e=>by cases e) c1_v
 have r2_v:=k2 ⟨0,145,0,0⟩ _ (fun e=>by cases e) r1_v
 have d2_4:=k2 ⟨0,4,0,0⟩ _ (fun e=>by cases e) d1_4
 have d2_5:=k2 ⟨0,5,0,0⟩ _ (fun e=>by cases e) d1_5
 have d2_6:=k2 ⟨0,6,0,0⟩ _ (fun e=>by cases e) d1_6
 have d2_9:=k2 ⟨0,9,0,0⟩ _ (fun e=>by cases e) d1_9
 have d2_10:=k2 ⟨0,10,0,0⟩ _ (fun e=>by cases e) d1_10
 have d2_11:=k2 ⟨0,11,0,0⟩ _ (fun e=>by cases e) d1_11
 have w2_x:=k2 ⟨0,54,0,0⟩ _ (fun e=>by cases e) w1_x
 have w2_y:=k2 ⟨0,56,0,0⟩ _ (fun e=>by cases e) w1_y
 clear k2
 simp[c2_t]
 refine az t_1 t_2 t_3 t_4 t_5 t_6 t_7 t_8 t_9 tl ?_ ?_ btl (fun v3 J3 F3 k3=>?_)
 ·exact F2
 ·exact(.inr ⟨⟨0,86,0,0⟩,none,by simp,r2_t⟩)
 have c3_v:=k3 ⟨0,35,0,0⟩ _ (fun e=>by cases e) c2_v
 have r3_v:=k3 ⟨0,145,0,0⟩ _ (fun e=>by cases e) r2_v
 have d3_4:=k3 ⟨0,4,0,0⟩ _ (fun e=>by cases e) d2_4
 have d3_5:=k3 ⟨0,5,0,0⟩ _ (fun e=>by cases e) d2_5
 have d3_6:=k3 ⟨0,6,0,0⟩ _ (fun e=>by cases e) d2_6
 have d3_9:=k3 ⟨0,9,0,0⟩ _ (fun e=>by cases e) d2_9
 have d3_10:=k3 ⟨0,10,0,0⟩ _ (fun e=>by cases e) d2_10
 have d3_11:=k3 ⟨0,11,0,0⟩ _ (fun e=>by cases e) d2_11
 have w3_x:=k3 ⟨0,54,0,0⟩ _ (fun e=>by cases e) w2_x
 have w3_y:=k3 ⟨0,56,0,0⟩ _ (fun e=>by cases e) w2_y
 clear k3
 simp[c3_v]
 refine az a_1 a_2 a_3 a_4 a_5 a_6 a_7 a_8 a_9 l ?_ ?_ (by omega) (fun v4 J4 F4 k4=>?_)
 ·exact F3
 ·exact(.inr ⟨⟨0,145,0,0⟩,none,by simp,r3_v⟩)
 have d4_4:=k4 ⟨0,4,0,0⟩ _ (fun e=>by cases e) d3_4
 have d4_5:=k4 ⟨0,5,0,0⟩ _ (fun e=>by cases e) d3_5
 have d4_6:=k4 ⟨0,6,0,0⟩ _ (fun e=>by cases e) d3_6
 have d4_9:=k4 ⟨0,9,0,0⟩ _ (fun e=>by cases e) d3_9
 have d4_10:=k4 ⟨0,10,0,0⟩ _ (fun e=>by cases e) d3_10
 have d4_11:=k4 ⟨0,11,0,0⟩ _ (fun e=>by cases e) d3_11
 have w4_x:=k4 ⟨0,54,0,0⟩ _ (fun e=>by cases e) w3_x
 have w4_y:=k4 ⟨0,56,0,0⟩ _ (fun e=>by cases e) w3_y
 clear k4
 simp[d4_4,d4_5,d4_6,d4_9,d4_10,d4_11,w4_x,w4_y,hx.r,hy.r,hz.r,h30',h30'',h34]
set_option maxHeartbeats 4000000 in
theorem q9(a_1:UInt8)(a_2:UInt32)(a_3:UInt8)(a_4:Int)(a_5:Int)(a_6:UInt8)(a_7:UInt32)(a_8:UInt8)(a_9:Int)(b_1:UInt8)(b_2:UInt32)(b_3:UInt8)(b_4:Int)(b_5:Int)(b_6:UInt8)(b_7:UInt32)(b_8:UInt8)(b_9:Int)(o_1:UInt8)(o_2:UInt8)(o_3:UInt32)(o_4:UInt8)(o_5:Int)(o_6:UInt8)(o_7:UInt32)(o_8:UInt8)(o_9:Int)(o_10:Int)(o_11:UInt8)(o_12:UInt32)(o_13:UInt8)(o_14:Int)(o_15:UInt8)(o_16:UInt32)(c_1:UInt8)(c_2:UInt32)(c_3:UInt8)(c_4:Int)(c_5:Int)(c_6:UInt8)(c_7:UInt32)(c_8:UInt8)(c_9:Int)(p_1:UInt8)(p_2:UInt32)(p_3:UInt8)(p_4:Int)(p_5:Int)(p_6:UInt8)(p_7:UInt32)(p_8:UInt8)(p_9:Int)(u_1:UInt8)(u_2:UInt32)(u_3:UInt8)(u_4:Int)(u_5:Int)(u_6:UInt8)(u_7:UInt32)(u_8:UInt8)(u_9:Int)(t_1:UInt8)(t_2:UInt32)(t_3:UInt8)(t_4:Int)(t_5:Int)(t_6:UInt8)(t_7:UInt32)(t_8:UInt8)(t_9:Int)(i_1:UInt8)(i_2:UInt32)(i_3:UInt8)(i_4:Int)(j_1:UInt8)(j_2:UInt32)(j_3:UInt8)(j_4:Int)(n k e1 e2 e3 e4 e5:Int)(same:Bool){x0 x1 x2 y1 y2 y3 y4:AV}{l m q cl:List Int}
 (hx:Sl 1 (rows l) x0) (hy:Sl 1 (rows m) x1) (hz:Sl 1 (rows q) x2)
 (nl:rows l≠[]) (gl : ¬(1000:Int)<l.length)
 (nm:rows m≠[]) (gm : ¬(1000:Int)<m.length)
 (nq:rows q≠[]) (gq : ¬(1000:Int)<q.length)
 (ncl:rows cl≠[]) (bcl:cl.length<100000)
 (hT1:limf env 24 [.agg [a8 a_1,a32 a_2,a8 a_3,aI a_4,aI a_5,a8 a_6,a32 a_7,a8 a_8,aI a_9,x0]]=some (.agg [a8 a_1,a32 a_2,a8 a_3,aI a_4,aI a_5,a8 a_6,a32 a_7,a8 a_8,aI a_9,(.fsl 1 (rows l) none)])) (hT2:limf env 24 [.agg [a8 b_1,a32 b_2,a8 b_3,aI b_4,aI b_5,a8 b_6,a32 b_7,a8 b_8,aI b_9,x1]]=some (.agg [a8 b_1,a32 b_2,a8 b_3,aI b_4,aI b_5,a8 b_6,a32 b_7,a8 b_8,aI b_9,(.fsl 1 (rows m) none)])) (hT3:limf env 25 [.agg [a8 o_1,a8 o_2,a32 o_3,a8 o_4,aI o_5,a8 o_6,a32 o_7,a8 o_8,aI o_9,aI o_10,a8 o_11,a32 o_12,a8 o_13,aI o_14,a8 o_15,a32 o_16,x2]]=some (.agg [a8 o_1,a8 o_2,a32 o_3,a8 o_4,aI o_5,a8 o_6,a32 o_7,a8 o_8,aI o_9,aI o_10,a8 o_11,a32 o_12,a8 o_13,aI o_14,a8 o_15,a32 o_16,(.isl 1 (rows q) none)]))
 (h23:limf env 23 [.agg [a8 o_1,a8 o_2,a32 o_3,a8 o_4,aI o_5,a8 o_6,a32 o_7,a8 o_8,aI o_9,aI o_10,a8 o_11,a32 o_12,a8 o_13,aI o_14,a8 o_15,a32 o_16,(.isl 1 (rows q) none)]]=some (.tup [.agg [a8 c_1,a32 c_2,a8 c_3,aI c_4,aI c_5,a8 c_6,a32 c_7,a8 c_8,aI c_9,(.fsl 1 (rows cl) none)],aI e1])) (h26:limf env 26 [.agg [a8 o_1,a8 o_2,a32 o_3,a8 o_4,aI o_5,a8 o_6,a32 o_7,a8 o_8,aI o_9,aI o_10,a8 o_11,a32 o_12,a8 o_13,aI o_14,a8 o_15,a32 o_16,x2]]=some (.tup [.agg [a8 c_1,a32 c_2,a8 c_3,aI c_4,aI c_5,a8 c_6,a32 c_7,a8 c_8,aI c_9,y1],aI e1])) (s1:Sl 1 (rows cl) y1)
 (h17:limf env 17 [.agg [a8 a_1,a32 a_2,a8 a_3,aI a_4,aI a_5,a8 a_6,a32 a_7,a8 a_8,aI a_9,(.isl 1 (rows l) none)],aI n]=some (.tup [.agg [a8 p_1,a32 p_2,a8 p_3,aI p_4,aI p_5,a8 p_6,a32 p_7,a8 p_8,aI p_9,aNil],.agg [a8 u_1,a32 u_2,a8 u_3,aI u_4,aI u_5,a8 u_6,a32 u_7,a8 u_8,aI u_9,aNil],aI e2])) (h27:limf env 27 [.agg [a8 a_1,a32 a_2,a8 a_3,aI a_4,aI a_5,a8 a_6,a32 a_7,a8 a_8,aI a_9,x0],aI n]=some (.tup [.agg [a8 p_1,a32 p_2,a8 p_3,aI p_4,aI p_5,a8 p_6,a32 p_7,a8 p_8,aI p_9,y2],.agg [a8 u_1,a32 u_2,a8 u_3,aI u_4,aI u_5,a8 u_6,a32 u_7,a8 u_8,aI u_9,y3],aI e2])) (s2:Sl 1 (rows ([]:List Int)) y2) (s3:Sl 1 (rows ([]:List Int)) y3)
 (h16:limf env 16 [.agg [a8 a_1,a32 a_2,a8 a_3,aI a_4,aI a_5,a8 a_6,a32 a_7,a8 a_8,aI a_9,(.isl 1 (rows l) none)],.agg [a8 b_1,a32 b_2,a8 b_3,aI b_4,aI b_5,a8 b_6,a32 b_7,a8 b_8,aI b_9,(.isl 1 (rows m) none)]]=some (.tup [.agg [a8 t_1,a32 t_2,a8 t_3,aI t_4,aI t_5,a8 t_6,a32 t_7,a8 t_8,aI t_9,aNil],aI e3])) (h28:limf env 28 [.agg [a8 a_1,a32 a_2,a8 a_3,aI a_4,aI a_5,a8 a_6,a32 a_7,a8 a_8,aI a_9,x0],.agg [a8 b_1,a32 b_2,a8 b_3,aI b_4,aI b_5,a8 b_6,a32 b_7,a8 b_8,aI b_9,x1]]=some (.tup [.agg [a8 t_1,a32 t_2,a8 t_3,aI t_4,aI t_5,a8 t_6,a32 t_7,a8 t_8,aI t_9,y4],aI e3])) (s4:Sl 1 (rows ([]:List Int)) y4)
 (h20:limf env 20 [.agg [a8 a_1,a32 a_2,a8 a_3,aI a_4,aI a_5,a8 a_6,a32 a_7,a8 a_8,aI a_9,(.isl 1 (rows l) none)],aI n]=some (.tup [.agg [a8 i_1,a32 i_2,a8 i_3,aI i_4],.agg [a8 j_1,a32 j_2,a8 j_3,aI j_4],.v (.int .i32 k),aI e4])) (h29:limf env 29 [.agg [a8 a_1,a32 a_2,a8 a_3,aI a_4,aI a_5,a8 a_6,a32 a_7,a8 a_8,aI a_9,x0],aI n]=some (.tup [.agg [a8 i_1,a32 i_2,a8 i_3,aI i_4],.agg [a8 j_1,a32 j_2,a8 j_3,aI j_4],.v (.int .i32 k),aI e4]))
 (h31:limf env 31 [.agg [a8 a_1,a32 a_2,a8 a_3,aI a_4,aI a_5,a8 a_6,a32 a_7,a8 a_8,aI a_9,(.isl 1 (rows l) none)]]=some (.agg [a8 a_1,a32 a_2,a8 a_3,aI a_4,aI a_5,a8 a_6,a32 a_7,a8 a_8,aI a_9,(.fsl 1 (rows l) none)]))
 (hS1:limf env 30 [.agg [a8 c_1,a32 c_2,a8 c_3,aI c_4,aI c_5,a8 c_6,a32 c_7,a8 c_8,aI c_9,(.isl 1 (rows cl) none)],.agg [a8 c_1,a32 c_2,a8 c_3,aI c_4,aI c_5,a8 c_6,a32 c_7,a8 c_8,aI c_9,y1]]=some (aB true)) (hS2:limf env 30 [.agg [a8 p_1,a32 p_2,a8 p_3,aI p_4,aI p_5,a8 p_6,a32 p_7,a8 p_8,aI p_9,aNil],.agg [a8 p_1,a32 p_2,a8 p_3,aI p_4,aI p_5,a8 p_6,a32 p_7,a8 p_8,aI p_9,y2]]=some (aB true)) (hS3:limf env 30 [.agg [a8 u_1,a32 u_2,a8 u_3,aI u_4,aI u_5,a8 u_6,a32 u_7,a8 u_8,aI u_9,aNil],.agg [a8 u_1,a32 u_2,a8 u_3,aI u_4,aI u_5,a8 u_6,a32 u_7,a8 u_8,aI u_9,y3]]=some (aB true)) (hS4:limf env 30 [.agg [a8 t_1,a32 t_2,a8 t_3,aI t_4,aI t_5,a8 t_6,a32 t_7,a8 t_8,aI t_9,aNil],.agg [a8 t_1,a32 t_2,a8 t_3,aI t_4,aI t_5,a8 t_6,a32 t_7,a8 t_8,aI t_9,y4]]=some (aB true))
 (h19:limf env 19 [.agg [a8 a_1,a32 a_2,a8 a_3,aI a_4,aI a_5,a8 a_6,a32 a_7,a8 a_8,aI a_9,(.isl 1 (rows l) none)]]=some (aI e5)) (h32:limf env 32 [.agg [a8 a_1,a32 a_2,a8 a_3,aI a_4,aI a_5,a8 a_6,a32 a_7,a8 a_8,aI a_9,x0]]=some (aI e5)) (h18:limf env 18 [.agg [a8 a_1,a32 a_2,a8 a_3,aI a_4,aI a_5,a8 a_6,a32 a_7,a8 a_8,aI a_9,(.isl 1 (rows l) none)],.agg [a8 b_1,a32 b_2,a8 b_3,aI b_4,aI b_5,a8 b_6,a32 b_7,a8 b_8,aI b_9,(.isl 1 (rows m) none)]]=some (aB same)) (h30:limf env 30 [.agg [a8 a_1,a32 a_2,a8 a_3,aI a_4,aI a_5,a8 a_6,a32 a_7,a8 a_8,aI a_9,x0],.agg [a8 b_1,a32 b_2,a8 b_3,aI b_4,aI b_5,a8 b_6,a32 b_7,a8 b_8,aI b_9,x1]]=some (aB same)) (h18':limf env 18 [.agg [a8 a_1,a32 a_2,a8 a_3,aI a_4,aI a_5,a8 a_6,a32 a_7,a8 a_8,aI a_9,(.isl 1 (rows l) none)],.agg [a8 a_1,a32 a_2,a8 a_3,aI a_4,aI a_5,a8 a_6,a32 a_7,a8 a_8,aI a_9,x0]]=some (aB true)) (h30':limf env 30 [.agg [a8 a_1,a32 a_2,a8 a_3,aI a_4,aI a_5,a8 a_6,a32 a_7,a8 a_8,aI a_9,(.isl 1 (rows l) none)],.agg [a8 a_1,a32 a_2,a8 a_3,aI a_4,aI a_5,a8 a_6,a32 a_7,a8 a_8,aI a_9,x0]]=some (aB true)) (h30'':limf env 30 [.agg [a8 b_1,a32 b_2,a8 b_3,aI b_4,aI b_5,a8 b_6,a32 b_7,a8 b_8,aI b_9,(.isl 1 (rows m) none)],.agg [a8 b_1,a32 b_2,a8 b_3,aI b_4,aI b_5,a8 b_6,a32 b_7,a8 b_8,aI b_9,x1]]=some (aB true)) (h34:limf env 34 [.agg [a8 o_1,a8 o_2,a32 o_3,a8 o_4,aI o_5,a8 o_6,a32 o_7,a8 o_8,aI o_9,aI o_10,a8 o_11,a32 o_12,a8 o_13,aI o_14,a8 o_15,a32 o_16,(.isl 1 (rows q) none)],.agg [a8 o_1,a8 o_2,a32 o_3,a8 o_4,aI o_5,a8 o_6,a32 o_7,a8 o_8,aI o_9,aI o_10,a8 o_11,a32 o_12,a8 o_13,aI o_14,a8 o_15,a32 o_16,x2]]=some (aB true)) :
 limf env 6 [.agg [a8 a_1,a32 a_2,a8 a_3,aI a_4,aI a_5,a8 a_6,a32 a_7,a8 a_8,aI a_9,x0],.agg [a8 b_1,a32 b_2,a8 b_3,aI b_4,aI b_5,a8 b_6,a32 b_7,a8 b_8,aI b_9,x1],.agg [a8 o_1,a8 o_2,a32 o_3,a8 o_4,aI o_5,a8 o_6,a32 o_7,a8 o_8,aI o_9,aI o_10,a8 o_11,a32 o_12,a8 o_13,aI o_14,a8 o_15,a32 o_16,x2],aI n]=some (aB true):=by
 have hF1:=fun H r=>aG (H:=H) (f:=24) (by kernel_rfl) false 0 r (args:=[.agg [a8 a_1,a32 a_2,a8 a_3,aI a_4,aI a_5,a8 a_6,a32 a_7,a8 a_8,aI a_9,x0]]) (by simp[hx.r]) (by simp[hx.r]) hT1
 have hF2:=fun H r=>aG (H:=H) (f:=24) (by kernel_rfl) false 0 r (args:=[.agg [a8 b_1,a32 b_2,a8 b_3,aI b_4,aI b_5,a8 b_6,a32 b_7,a8 b_8,aI b_9,x1]]) (by simp[hy.r]) (by simp[hy.r]) hT2
 have fcl:=aF cl
 have fl:=aF l
 clear hT1 hT2
 refine aC (fn:=Try.f6) (c:=ai) rfl (by kernel_rfl) (by kernel_rfl) (by kernel_rfl) (by kernel_rfl) ?_;refine aq _ _ _ _ _ _ fun g=>?_
 simp[ar,au,ae,af,ab, *,aj,hx.r,hy.r,hz.r,s1.r,s2.r,s3.r,s4.r,frzB,eqA,eqFs]
 refine az c_1 c_2 c_3 c_4 c_5 c_6 c_7 c_8 c_9 cl ?_ ?_ bcl (fun v0 J0 F0 k0=>?_)
 ·exact bz rfl
 ·exact(.inr ⟨⟨0,61,0,0⟩,none,by simp,rfl⟩)
 have c0_p:=k0 ⟨0,16,0,0⟩ _ (fun e=>by cases e) rfl
 have c0_u:=k0 ⟨0,17,0,0⟩ _ (fun e=>by cases e) rfl
 have c0_t:=k0 ⟨0,22,0,0⟩ _ (fun e=>by cases e) rfl
 have c0_v:=k0 ⟨0,35,0,0⟩ _ (fun e=>by cases e) rfl
 have r0_v:=k0 ⟨0,145,0,0⟩ _ (fun e=>by cases e) rfl
 have d0_4:=k0 ⟨0,4,0,0⟩ _ (fun e=>by cases e) rfl
 have d0_5:=k0 ⟨0,5,0,0⟩ _ (fun e=>by cases e) rfl
 have d0_6:=k0 ⟨0,6,0,0⟩ _ (fun e=>by cases e) rfl
 have d0_9:=k0 ⟨0,9,0,0⟩ _ (fun e=>by cases e) rfl
 have d0_10:=k0 ⟨0,10,0,0⟩ _ (fun e=>by cases e) rfl
 have d0_11:=k0 ⟨0,11,0,0⟩ _ (fun e=>by cases e) rfl
 have w0_x:=k0 ⟨0,54,0,0⟩ _ (fun e=>by cases e) rfl
 have w0_y:=k0 ⟨0,56,0,0⟩ _ (fun e=>by cases e) rfl
 clear k0
 simp[c0_p]
 refine az p_1 p_2 p_3 p_4 p_5 p_6 p_7 p_8 p_9 ([]:List Int) ?_ ?_ (by simp) (fun v1 J1 F1 k1=>?_)
 ·exact F0
 ·exact(.inl ⟨rfl,rfl⟩)
 have c1_u:=k1 ⟨0,17,0,0⟩ _ (fun e=>by cases e) c0_u
 have c1_t:=k1 ⟨0,22,0,0⟩ _ (fun e=>by cases e) c0_t
 have c1_v:=k1 ⟨0,35,0,0⟩ _ (fun e=>by cases e) c0_v
 have r1_v:=k1 ⟨0,145,0,0⟩ _ (fun e=>by cases e) r0_v
 have d1_4:=k1 ⟨0,4,0,0⟩ _ (fun e=>by cases e) d0_4
 have d1_5:=k1 ⟨0,5,0,0⟩ _ (fun e=>by cases e) d0_5
 have d1_6:=k1 ⟨0,6,0,0⟩ _ (fun e=>by cases e) d0_6
 have d1_9:=k1 ⟨0,9,0,0⟩ _ (fun e=>by cases e) d0_9
 have d1_10:=k1 ⟨0,10,0,0⟩ _ (fun e=>by cases e) d0_10
 have d1_11:=k1 ⟨0,11,0,0⟩ _ (fun e=>by cases e) d0_11
 have w1_x:=k1 ⟨0,54,0,0⟩ _ (fun e=>by cases e) w0_x
 have w1_y:=k1 ⟨0,56,0,0⟩ _ (fun e=>by cases e) w0_y
 clear k1
 simp[c1_u]
 refine az u_1 u_2 u_3 u_4 u_5 u_6 u_7 u_8 u_9 ([]:List Int) ?_ ?_ (by simp) (fun v2 J2 F2 k2=>?_)
 ·exact F1
 ·exact(.inl ⟨rfl,rfl⟩)
 have c2_t:=k2 ⟨0,22,0,0⟩ _ (fun e=>by cases e) c1_t
 have c2_v:=k2 ⟨0,35,0,0⟩ _ (fun e=>by cases e) c1_v
 have r2_v:=k2 ⟨0,145,0,0⟩ _ (fun e=>by cases e) r1_v
 have d2_4:=k2 ⟨0,4,0,0⟩ _ (fun e=>by cases e) d1_4
 have d2_5:=k2 ⟨0,5,0,0⟩ _ (fun e=>by cases e) d1_5
 have d2_6:=k2 ⟨0,6,0,0⟩ _ (fun e=>by cases e) d1_6
 have d2_9:=k2 ⟨0,9,0,0⟩ _ (fun e=>by cases e) d1_9
 have d2_10:=k2 ⟨0,10,0,0⟩ _ (fun e=>by cases e) d1_10
 have d2_11:=k2 ⟨0,11,0,0⟩ _ (fun e=>by cases e) d1_11
 have w2_x:=k2 ⟨0,54,0,0⟩ _ (fun e=>by cases e) w1_x
 have w2_y:=k2 ⟨0,56,0,0⟩ _ (fun e=>by cases e) w1_y
 clear k2
 simp[c2_t]
 refine az t_1 t_2 t_3 t_4 t_5 t_6 t_7 t_8 t_9 ([]:List Int) ?_ ?_ (by simp) (fun v3 J3 F3 k3=>?_)
 ·exact F2
 ·exact(.inl ⟨rfl,rfl⟩)
 have c3_v:=k3 ⟨0,35,0,0⟩ _ (fun e=>by cases e) c2_v
 have r3_v:=k3 ⟨0,145,0,0⟩ _ (fun e=>by cases e) r2_v
 have d3_4:=k3 ⟨0,4,0,0⟩ _ (fun e=>by cases e) d2_4
 have d3_5:=k3 ⟨0,5,0,0⟩ _ (fun e=>by cases e) d2_5
 have d3_6:=k3 ⟨0,6,0,0⟩ _ (fun e=>by cases e) d2_6
 have d3_9:=k3 ⟨0,9,0,0⟩ _ (fun e=>by cases e) d2_9
 have d3_10:=k3 ⟨0,10,0,0⟩ _ (fun e=>by cases e) d2_10
 have d3_11:=k3 ⟨0,11,0,0⟩ _ (fun e=>by cases e) d2_11
 have w3_x:=k3 ⟨0,54,0,0⟩ _ (fun e=>by cases e) w2_x
 have w3_y:=k3 ⟨0,56,0,0⟩ _ (fun e=>by cases e) w2_y
 clear k3
 simp[c3_v]
 refine az a_1 a_2 a_3 a_4 a_5 a_6 a_7 a_8 a_9 l ?_ ?_ (by omega) (fun v4 J4 F4 k4=>?_)
 ·exact F3
 ·exact(.inr ⟨⟨0,145,0,0⟩,none,by simp,r3_v⟩)
 have d4_4:=k4 ⟨0,4,0,0⟩ _ (fun e=>by cases e) d3_4
 have d4_5:=k4 ⟨0,5,0,0⟩ _ (fun e=>by cases e) d3_5
 have d4_6:=k4 ⟨0,6,0,0⟩ _ (fun e=>by cases e) d3_6
 have d4_9:=k4 ⟨0,9,0,0⟩ _ (fun e=>by cases e) d3_9
 have d4_10:=k4 ⟨0,10,0,0⟩ _ (fun e=>by cases e) d3_10
 have d4_11:=k4 ⟨0,11,0,0⟩ _ (fun e=>by cases e) d3_11
 have w4_x:=k4 ⟨0,54,0,0⟩ _ (fun e=>by cases e) w3_x
 have w4_y:=k4 ⟨0,56,0,0⟩ _ (fun e=>by cases e) w3_y
 clear k4
 simp[d4_4,d4_5,d4_6,d4_9,d4_10,d4_11,w4_x,w4_y,hx.r,hy.r,hz.r,h30',h30'',h34]
set_option maxHeartbeats 4000000 in
theorem q8(a_1:UInt8)(a_2:UInt32)(a_3:UInt8)(a_4:Int)(a_5:Int)(a_6:UInt8)(a_7:UInt32)(a_8:UInt8)(a_9:Int)(b_1:UInt8)(b_2:UInt32)(b_3:UInt8)(b_4:Int)(b_5:Int)(b_6:UInt8)(b_7:UInt32)(b_8:UInt8)(b_9:Int)(o_1:UInt8)(o_2:UInt8)(o_3:UInt32)(o_4:UInt8)(o_5:Int)(o_6:UInt8)(o_7:UInt32)(o_8:UInt8)(o_9:Int)(o_10:Int)(o_11:UInt8)(o_12:UInt32)(o_13:UInt8)(o_14:Int)(o_15:UInt8)(o_16:UInt32)(c_1:UInt8)(c_2:UInt32)(c_3:UInt8)(c_4:Int)(c_5:Int)(c_6:UInt8)(c_7:UInt32)(c_8:UInt8)(c_9:Int)(p_1:UInt8)(p_2:UInt32)(p_3:UInt8)(p_4:Int)(p_5:Int)(p_6:UInt8)(p_7:UInt32)(p_8:UInt8)(p_9:Int)(u_1:UInt8)(u_2:UInt32)(u_3:UInt8)(u_4:Int)(u_5:Int)(u_6:UInt8)(u_7:UInt32)(u_8:UInt8)(u_9:Int)(t_1:UInt8)(t_2:UInt32)(t_3:UInt8)(t_4:Int)(t_5:Int)(t_6:UInt8)(t_7:UInt32)(t_8:UInt8)(t_9:Int)(i_1:UInt8)(i_2:UInt32)(i_3:UInt8)(i_4:Int)(j_1:UInt8)(j_2:UInt32)(j_3:UInt8)(j_4:Int)(n k e1 e2 e3 e4 e5:Int)(same:Bool){x0 x1 x2 y1 y2 y3 y4:AV}{l m q cl tl:List Int}
 (hx:Sl 1 (rows l) x0) (hy:Sl 1 (rows m) x1) (hz:Sl 1 (rows q) x2)
 (nl:rows l≠[]) (gl : ¬(1000:Int)<l.length)
 (nm:rows m≠[]) (gm : ¬(1000:Int)<m.length)
 (nq:rows q≠[]) (gq : ¬(1000:Int)<q.length)
 (ncl:rows cl≠[]) (bcl:cl.length<100000)
 (ntl:rows tl≠[]) (btl:tl.length<100000)
 (hT1:limf env 24 [.agg [a8 a_1,a32 a_2,a8 a_3,aI a_4,aI a_5,a8 a_6,a32 a_7,a8 a_8,aI a_9,x0]]=some (.agg [a8 a_1,a32 a_2,a8 a_3,aI a_4,aI a_5,a8 a_6,a32 a_7,a8 a_8,aI a_9,(.fsl 1 (rows l) none)])) (hT2:limf env 24 [.agg [a8 b_1,a32 b_2,a8 b_3,aI b_4,aI b_5,a8 b_6,a32 b_7,a8 b_8,aI b_9,x1]]=some (.agg [a8 b_1,a32 b_2,a8 b_3,aI b_4,aI b_5,a8 b_6,a32 b_7,a8 b_8,aI b_9,(.fsl 1 (rows m) none)])) (hT3:limf env 25 [.agg [a8 o_1,a8 o_2,a32 o_3,a8 o_4,aI o_5,a8 o_6,a32 o_7,a8 o_8,aI o_9,aI o_10,a8 o_11,a32 o_12,a8 o_13,aI o_14,a8 o_15,a32 o_16,x2]]=some (.agg [a8 o_1,a8 o_2,a32 o_3,a8 o_4,aI o_5,a8 o_6,a32 o_7,a8 o_8,aI o_9,aI o_10,a8 o_11,a32 o_12,a8 o_13,aI o_14,a8 o_15,a32 o_16,(.isl 1 (rows q) none)]))
 (h23:limf env 23 [.agg [a8 o_1,a8 o_2,a32 o_3,a8 o_4,aI o_5,a8 o_6,a32 o_7,a8 o_8,aI o_9,aI o_10,a8 o_11,a32 o_12,a8 o_13,aI o_14,a8 o_15,a32 o_16,(.isl 1 (rows q) none)]]=some (.tup [.agg [a8 c_1,a32 c_2,a8 c_3,aI c_4,aI c_5,a8 c_6,a32 c_7,a8 c_8,aI c_9,(.fsl 1 (rows cl) none)],aI e1])) (h26:limf env 26 [.agg [a8 o_1,a8 o_2,a32 o_3,a8 o_4,aI o_5,a8 o_6,a32 o_7,a8 o_8,aI o_9,aI o_10,a8 o_11,a32 o_12,a8 o_13,aI o_14,a8 o_15,a32 o_16,x2]]=some (.tup [.agg [a8 c_1,a32 c_2,a8 c_3,aI c_4,aI c_5,a8 c_6,a32 c_7,a8 c_8,aI c_9,y1],aI e1])) (s1:Sl 1 (rows cl) y1)
 (h17:limf env 17 [.agg [a8 a_1,a32 a_2,a8 a_3,aI a_4,aI a_5,a8 a_6,a32 a_7,a8 a_8,aI a_9,(.isl 1 (rows l) none)],aI n]=some (.tup [.agg [a8 p_1,a32 p_2,a8 p_3,aI p_4,aI p_5,a8 p_6,a32 p_7,a8 p_8,aI p_9,aNil],.agg [a8 u_1,a32 u_2,a8 u_3,aI u_4,aI u_5,a8 u_6,a32 u_7,a8 u_8,aI u_9,aNil],aI e2])) (h27:limf env 27 [.agg [a8 a_1,a32 a_2,a8 a_3,aI a_4,aI a_5,a8 a_6,a32 a_7,a8 a_8,aI a_9,x0],aI n]=some (.tup [.agg [a8 p_1,a32 p_2,a8 p_3,aI p_4,aI p_5,a8 p_6,a32 p_7,a8 p_8,aI p_9,y2],.agg [a8 u_1,a32 u_2,a8 u_3,aI u_4,aI u_5,a8 u_6,a32 u_7,a8 u_8,aI u_9,y3],aI e2])) (s2:Sl 1 (rows ([]:List Int)) y2) (s3:Sl 1 (rows ([]:List Int)) y3)
 (h16:limf env 16 [.agg [a8 a_1,a32 a_2,a8 a_3,aI a_4,aI a_5,a8 a_6,a32 a_7,a8 a_8,aI a_9,(.isl 1 (rows l) none)],.agg [a8 b_1,a32 b_2,a8 b_3,aI b_4,aI b_5,a8 b_6,a32 b_7,a8 b_8,aI b_9,(.isl 1 (rows m) none)]]=some (.tup [.agg [a8 t_1,a32 t_2,a8 t_3,aI t_4,aI t_5,a8 t_6,a32 t_7,a8 t_8,aI t_9,(.fsl 1 (rows tl) none)],aI e3])) (h28:limf env 28 [.agg [a8 a_1,a32 a_2,a8 a_3,aI a_4,aI a_5,a8 a_6,a32 a_7,a8 a_8,aI a_9,x0],.agg [a8 b_1,a32 b_2,a8 b_3,aI b_4,aI b_5,a8 b_6,a32 b_7,a8 b_8,aI b_9,x1]]=some (.tup [.agg [a8 t_1,a32 t_2,a8 t_3,aI t_4,aI t_5,a8 t_6,a32 t_7,a8 t_8,aI t_9,y4],aI e3])) (s4:Sl 1 (rows tl) y4)
 (h20:limf env 20 [.agg [a8 a_1,a32 a_2,a8 a_3,aI a_4,aI a_5,a8 a_6,a32 a_7,a8 a_8,aI a_9,(.isl 1 (rows l) none)],aI n]=some (.tup [.agg [a8 i_1,a32 i_2,a8 i_3,aI i_4],.agg [a8 j_1,a32 j_2,a8 j_3,aI j_4],.v (.int .i32 k),aI e4])) (h29:limf env 29 [.agg [a8 a_1,a32 a_2,a8 a_3,aI a_4,aI a_5,a8 a_6,a32 a_7,a8 a_8,aI a_9,x0],aI n]=some (.tup [.agg [a8 i_1,a32 i_2,a8 i_3,aI i_4],.agg [a8 j_1,a32 j_2,a8 j_3,aI j_4],.v (.int .i32 k),aI e4]))
 (h31:limf env 31 [.agg [a8 a_1,a32 a_2,a8 a_3,aI a_4,aI a_5,a8 a_6,a32 a_7,a8 a_8,aI a_9,(.isl 1 (rows l) none)]]=some (.agg [a8 a_1,a32 a_2,a8 a_3,aI a_4,aI a_5,a8 a_6,a32 a_7,a8 a_8,aI a_9,(.fsl 1 (rows l) none)]))
 (hS1:limf env 30 [.agg [a8 c_1,a32 c_2,a8 c_3,aI c_4,aI c_5,a8 c_6,a32 c_7,a8 c_8,aI c_9,(.isl 1 (rows cl) none)],.agg [a8 c_1,a32 c_2,a8 c_3,aI c_4,aI c_5,a8 c_6,a32 c_7,a8 c_8,aI c_9,y1]]=some (aB true)) (hS2:limf env 30 [.agg [a8 p_1,a32 p_2,a8 p_3,aI p_4,aI p_5,a8 p_6,a32 p_7,a8 p_8,aI p_9,aNil],.agg [a8 p_1,a32 p_2,a8 p_3,aI p_4,aI p_5,a8 p_6,a32 p_7,a8 p_8,aI p_9,y2]]=some (aB true)) (hS3:limf env 30 [.agg [a8 u_1,a32 u_2,a8 u_3,aI u_4,aI u_5,a8 u_6,a32 u_7,a8 u_8,aI u_9,aNil],.agg [a8 u_1,a32 u_2,a8 u_3,aI u_4,aI u_5,a8 u_6,a32 u_7,a8 u_8,aI u_9,y3]]=some (aB true)) (hS4:limf env 30 [.agg [a8 t_1,a32 t_2,a8 t_3,aI t_4,aI t_5,a8 t_6,a32 t_7,a8 t_8,aI t_9,(.isl 1 (rows tl) none)],.agg [a8 t_1,a32 t_2,a8 t_3,aI t_4,aI t_5,a8 t_6,a32 t_7,a8 t_8,aI t_9,y4]]=some (aB true))
 (h19:limf env 19 [.agg [a8 a_1,a32 a_2,a8 a_3,aI a_4,aI a_5,a8 a_6,a32 a_7,a8 a_8,aI a_9,(.isl 1 (rows l) none)]]=some (aI e5)) (h32:limf env 32 [.agg [a8 a_1,a32 a_2,a8 a_3,aI a_4,aI a_5,a8 a_6,a32 a_7,a8 a_8,aI a_9,x0]]=some (aI e5)) (h18:limf env 18 [.agg [a8 a_1,a32 a_2,a8 a_3,aI a_4,aI a_5,a8 a_6,a32 a_7,a8 a_8,aI a_9,(.isl 1 (rows l) none)],.agg [a8 b_1,a32 b_2,a8 b_3,aI b_4,aI b_5,a8 b_6,a32 b_7,a8 b_8,aI b_9,(.isl 1 (rows m) none)]]=some (aB same)) (h30:limf env 30 [.agg [a8 a_1,a32 a_2,a8 a_3,aI a_4,aI a_5,a8 a_6,a32 a_7,a8 a_8,aI a_9,x0],.agg [a8 b_1,a32 b_2,a8 b_3,aI b_4,aI b_5,a8 b_6,a32 b_7,a8 b_8,aI b_9,x1]]=some (aB same)) (h18':limf env 18 [.agg [a8 a_1,a32 a_2,a8 a_3,aI a_4,aI a_5,a8 a_6,a32 a_7,a8 a_8,aI a_9,(.isl 1 (rows l) none)],.agg [a8 a_1,a32 a_2,a8 a_3,aI a_4,aI a_5,a8 a_6,a32 a_7,a8 a_8,aI a_9,x0]]=some (aB true)) (h30':limf env 30 [.agg [a8 a_1,a32 a_2,a8 a_3,aI a_4,aI a_5,a8 a_6,a32 a_7,a8 a_8,aI a_9,(.isl 1 (rows l) none)],.agg [a8 a_1,a32 a_2,a8 a_3,aI a_4,aI a_5,a8 a_6,a32 a_7,a8 a_8,aI a_9,x0]]=some (aB true)) (h30'':limf env 30 [.agg [a8 b_1,a32 b_2,a8 b_3,aI b_4,aI b_5,a8 b_6,a32 b_7,a8 b_8,aI b_9,(.isl 1 (rows m) none)],.agg [a8 b_1,a32 b_2,a8 b_3,aI b_4,aI b_5,a8 b_6,a32 b_7,a8 b_8,aI b_9,x1]]=some (aB true)) (h34:limf env 34 [.agg [a8 o_1,a8 o_2,a32 o_3,a8 o_4,aI o_5,a8 o_6,a32 o_7,a8 o_8,aI o_9,aI o_10,a8 o_11,a32 o_12,a8 o_13,aI o_14,a8 o_15,a32 o_16,(.isl 1 (rows q) none)],.agg [a8 o_1,a8 o_2,a32 o_3,a8 o_4,aI o_5,a8 o_6,a32 o_7,a8 o_8,aI o_9,aI o_10,a8 o_11,a32 o_12,a8 o_13,aI o_14,a8 o_15,a32 o_16,x2]]=some (aB true)) :
 limf env 6 [.agg [a8 a_1,a32 a_2,a8 a_3,aI a_4,aI a_5,a8 a_6,a32 a_7,a8 a_8,aI a_9,x0],.agg [a8 b_1,a32 b_2,a8 b_3,aI b_4,aI b_5,a8 b_6,a32 b_7,a8 b_8,aI b_9,x1],.agg [a8 o_1,a8 o_2,a32 o_3,a8 o_4,aI o_5,a8 o_6,a32 o_7,a8 o_8,aI o_9,aI o_10,a8 o_11,a32 o_12,a8 o_13,aI o_14,a8 o_15,a32 o_16,x2],aI n]=some (aB true):=by
 have hF1:=fun H r=>aG (H:=H) (f:=24) (by kernel_rfl) false 0 r (args:=[.agg [a8 a_1,a32 a_2,a8 a_3,aI a_4,aI a_5,a8 a_6,a32 a_7,a8 a_8,aI a_9,x0]]) (by simp[hx.r]) (by simp[hx.r]) hT1
 have hF2:=fun H r=>aG (H:=H) (f:=24) (by kernel_rfl) false 0 r (args:=[.agg [a8 b_1,a32 b_2,a8 b_3,aI b_4,aI b_5,a8 b_6,a32 b_7,a8 b_8,aI b_9,x1]]) (by simp[hy.r]) (by simp[hy.r]) hT2
 have fcl:=aF cl
 have ftl:=aF tl
 have fl:=aF l
 clear hT1 hT2
 refine aC (fn:=Try.f6) (c:=ai) rfl (by kernel_rfl) (by kernel_rfl) (by kernel_rfl) (by kernel_rfl) ?_;refine aq _ _ _ _ _ _ fun g=>?_
 simp[ar,au,ae,af,ab, *,aj,hx.r,hy.r,hz.r,s1.r,s2.r,s3.r,s4.r,frzB,eqA,eqFs]
 refine az c_1 c_2 c_3 c_4 c_5 c_6 c_7 c_8 c_9 cl ?_ ?_ bcl (fun v0 J0 F0 k0=>?_)
 ·exact bz rfl
 ·exact(.inr ⟨⟨0,61,0,0⟩,none,by simp,rfl⟩)
 have c0_p:=k0 ⟨0,16,0,0⟩ _ (fun e=>by cases e) rfl
 have c0_u:=k0 ⟨0,17,0,0⟩ _ (fun e=>by cases e) rfl
 have c0_t:=k0 ⟨0,22,0,0⟩ _ (fun e=>by cases e) rfl
 have r0_t:=k0 ⟨0,86,0,0⟩ _ (fun e=>by cases e) rfl
 have c0_v:=k0 ⟨0,35,0,0⟩ _ (fun e=>by cases e) rfl
 have r0_v:=k0 ⟨0,145,0,0⟩ _ (fun e=>by cases e) rfl
 have d0_4:=k0 ⟨0,4,0,0⟩ _ (fun e=>by cases e) rfl
 have d0_5:=k0 ⟨0,5,0,0⟩ _ (fun e=>by cases e) rfl
 have d0_6:=k0 ⟨0,6,0,0⟩ _ (fun e=>by cases e) rfl
 have d0_9:=k0 ⟨0,9,0,0⟩ _ (fun e=>by cases e) rfl
 have d0_10:=k0 ⟨0,10,0,0⟩ _ (fun e=>by cases e) rfl
 have d0_11:=k0 ⟨0,11,0,0⟩ _ (fun e=>by cases e) rfl
 have w0_x:=k0 ⟨0,54,0,0⟩ _ (fun e=>by cases e) rfl
 have w0_y:=k0 ⟨0,56,0,0⟩ _ (fun e=>by cases e) rfl
 clear k0
 simp[c0_p]
 refine az p_1 p_2 p_3 p_4 p_5 p_6 p_7 p_8 p_9 ([]:List Int) ?_ ?_ (by simp) (fun v1 J1 F1 k1=>?_)
 ·exact F0
 ·exact(.inl ⟨rfl,rfl⟩)
 have c1_u:=k1 ⟨0,17,0,0⟩ _ (fun e=>by cases e) c0_u
 have c1_t:=k1 ⟨0,22,0,0⟩ _ (fun e=>by cases e) c0_t
 have r1_t:=k1 ⟨0,86,0,0⟩ _ (fun e=>by cases e) r0_t
 have c1_v:=k1 ⟨0,35,0,0⟩ _ (fun e=>by cases e) c0_v
 have r1_v:=k1 ⟨0,145,0,0⟩ _ (fun e=>by cases e) r0_v
 have d1_4:=k1 ⟨0,4,0,0⟩ _ (fun e=>by cases e) d0_4
 have d1_5:=k1 ⟨0,5,0,0⟩ _ (fun e=>by cases e) d0_5
 have d1_6:=k1 ⟨0,6,0,0⟩ _ (fun e=>by cases e) d0_6
 have d1_9:=k1 ⟨0,9,0,0⟩ _ (fun e=>by cases e) d0_9
 have d1_10:=k1 ⟨0,10,0,0⟩ _ (fun e=>by cases e) d0_10
 have d1_11:=k1 ⟨0,11,0,0⟩ _ (fun e=>by cases e) d0_11
 have w1_x:=k1 ⟨0,54,0,0⟩ _ (fun e=>by cases e) w0_x
 have w1_y:=k1 ⟨0,56,0,0⟩ _ (fun e=>by cases e) w0_y
 clear k1
 simp[c1_u]
 refine az u_1 u_2 u_3 u_4 u_5 u_6 u_7 u_8 u_9 ([]:List Int) ?_ ?_ (by simp) (fun v2 J2 F2 k2=>?_)
 ·exact F1
 ·exact(.inl ⟨rfl,rfl⟩)
 have c2_t:=k2 ⟨0,22,0,0⟩ _ (fun e=>by cases e) c1_t
 have r2_t:=k2 ⟨0,86,0,0⟩ _ (fun e=>by cases e) r1_t
 have c2_v:=k2 ⟨0,35,0,0⟩ _ (fun e=>by cases e) c1_v
 have r2_v:=k2 ⟨0,145,0,0⟩ _ (fun e=>by cases e) r1_v
 have d2_4:=k2 ⟨0,4,0,0⟩ _ (fun e=>by cases e) d1_4
 have d2_5:=k2 ⟨0,5,0,0⟩ _ (fun e=>by cases e) d1_5
 have d2_6:=k2 ⟨0,6,0,0⟩ _ (fun e=>by cases e) d1_6
 have d2_9:=k2 ⟨0,9,0,0⟩ _ (fun e=>by cases e) d1_9
 have d2_10:=k2 ⟨0,10,0,0⟩ _ (fun e=>by cases e) d1_10
 have d2_11:=k2 ⟨0,11,0,0⟩ _ (fun e=>by cases e) d1_11
 have w2_x:=k2 ⟨0,54,0,0⟩ _ (fun e=>by cases e) w1_x
 have w2_y:=k2 ⟨0,56,0,0⟩ _ (fun e=>by cases e) w1_y
 clear k2
 simp[c2_t]
 refine az t_1 t_2 t_3 t_4 t_5 t_6 t_7 t_8 t_9 tl ?_ ?_ btl (fun v3 J3 F3 k3=>?_)
 ·exact F2
 ·exact(.inr ⟨⟨0,86,0,0⟩,none,by simp,r2_t⟩)
 have c3_v:=k3 ⟨0,35,0,0⟩ _ (fun e=>by cases e) c2_v
 have r3_v:=k3 ⟨0,145,0,0⟩ _ (fun e=>by cases e) r2_v
 have d3_4:=k3 ⟨0,4,0,0⟩ _ (fun e=>by cases e) d2_4
 have d3_5:=k3 ⟨0,5,0,0⟩ _ (fun e=>by cases e) d2_5
 have d3_6:=k3 ⟨0,6,0,0⟩ _ (fun e=>by cases e) d2_6
 have d3_9:=k3 ⟨0,9,0,0⟩ _ (fun e=>by cases e) d2_9
 have d3_10:=k3 ⟨0,10,0,0⟩ _ (fun e=>by cases e) d2_10
 have d3_11:=k3 ⟨0,11,0,0⟩ _ (fun e=>by cases e) d2_11
 have w3_x:=k3 ⟨0,54,0,0⟩ _ (fun e=>by cases e) w2_x
 have w3_y:=k3 ⟨0,56,0,0⟩ _ (fun e=>by cases e) w2_y
 clear k3
 simp[c3_v]
 refine az a_1 a_2 a_3 a_4 a_5 a_6 a_7 a_8 a_9 l ?_ ?_ (by omega) (fun v4 J4 F4 k4=>?_)
 ·exact F3
 ·exact(.inr ⟨⟨0,145,0,0⟩,none,by simp,r3_v⟩)
 have d4_4:=k4 ⟨0,4,0,0⟩ _ (fun e=>by cases e) d3_4
 have d4_5:=k4 ⟨0,5,0,0⟩ _ (fun e=>by cases e) d3_5
 have d4_6:=k4 ⟨0,6,0,0⟩ _ (fun e=>by cases e) d3_6
 have d4_9:=k4 ⟨0,9,0,0⟩ _ (fun e=>by cases e) d3_9
 have d4_10:=k4 ⟨0,10,0,0⟩ _ (fun e=>by cases e) d3_10
 have d4_11:=k4 ⟨0,11,0,0⟩ _ (fun e=>by cases e) d3_11
 have w4_x:=k4 ⟨0,54,0,0⟩ _ (fun e=>by cases e) w3_x
 have w4_y:=k4 ⟨0,56,0,0⟩ _ (fun e=>by cases e) w3_y
 clear k4
 simp[d4_4,d4_5,d4_6,d4_9,d4_10,d4_11,w4_x,w4_y,hx.r,hy.r,hz.r,h30',h30'',h34]
set_option maxHeartbeats 4000000 in
theorem q7(a_1:UInt8)(a_2:UInt32)(a_3:UInt8)(a_4:Int)(a_5:Int)(a_6:UInt8)(a_7:UInt32)(a_8:UInt8)(a_9:Int)(b_1:UInt8)(b_2:UInt32)(b_3:UInt8)(b_4:Int)(b_5:Int)(b_6:UInt8)(b_7:UInt32)(b_8:UInt8)(b_9:Int)(o_1:UInt8)(o_2:UInt8)(o_3:UInt32)(o_4:UInt8)(o_5:Int)(o_6:UInt8)(o_7:UInt32)(o_8:UInt8)(o_9:Int)(o_10:Int)(o_11:UInt8)(o_12:UInt32)(o_13:UInt8)(o_14:Int)(o_15:UInt8)(o_16:UInt32)(c_1:UInt8)(c_2:UInt32)(c_3:UInt8)(c_4:Int)(c_5:Int)(c_6:UInt8)(c_7:UInt32)(c_8:UInt8)(c_9:Int)(p_1:UInt8)(p_2:UInt32)(p_3:UInt8)(p_4:Int)(p_5:Int)(p_6:UInt8)(p_7:UInt32)(p_8:UInt8)(p_9:Int)(u_1:UInt8)(u_2:UInt32)(u_3:UInt8)(u_4:Int)(u_5:Int)(u_6:UInt8)(u_7:UInt32)(u_8:UInt8)(u_9:Int)(t_1:UInt8)(t_2:UInt32)(t_3:UInt8)(t_4:Int)(t_5:Int)(t_6:UInt8)(t_7:UInt32)(t_8:UInt8)(t_9:Int)(i_1:UInt8)(i_2:UInt32)(i_3:UInt8)(i_4:Int)(j_1:UInt8)(j_2:UInt32)(j_3:UInt8)(j_4:Int)(n k e1 e2 e3 e4 e5:Int)(same:Bool){x0 x1 x2 y1 y2 y3 y4:AV}{l m q cl pl ql:List Int}
 (hx:Sl 1 (rows l) x0) (hy:Sl 1 (rows m) x1) (hz:Sl 1 (rows q) x2)
 (nl:rows l≠[]) (gl : ¬(1000:Int)<l.length)
 (nm:rows m≠[]) (gm : ¬(1000:Int)<m.length)
 (nq:rows q≠[]) (gq : ¬(1000:Int)<q.length)
 (ncl:rows cl≠[]) (bcl:cl.length<100000)
 (npl:rows pl≠[]) (bpl:pl.length<100000)
 (nql:rows ql≠[]) (bql:ql.length<100000)
 (hT1:limf env 24 [.agg [a8 a_1,a32 a_2,a8 a_3,aI a_4,aI a_5,a8 a_6,a32 a_7,a8 a_8,aI a_9,x0]]=some (.agg [a8 a_1,a32 a_2,a8 a_3,aI a_4,aI a_5,a8 a_6,a32 a_7,a8 a_8,aI a_9,(.fsl 1 (rows l) none)])) (hT2:limf env 24 [.agg [a8 b_1,a32 b_2,a8 b_3,aI b_4,aI b_5,a8 b_6,a32 b_7,a8 b_8,aI b_9,x1]]=some (.agg [a8 b_1,a32 b_2,a8 b_3,aI b_4,aI b_5,a8 b_6,a32 b_7,a8 b_8,aI b_9,(.fsl 1 (rows m) none)])) (hT3:limf env 25 [.agg [a8 o_1,a8 o_2,a32 o_3,a8 o_4,aI o_5,a8 o_6,a32 o_7,a8 o_8,aI o_9,aI o_10,a8 o_11,a32 o_12,a8 o_13,aI o_14,a8 o_15,a32 o_16,x2]]=some (.agg [a8 o_1,a8 o_2,a32 o_3,a8 o_4,aI o_5,a8 o_6,a32 o_7,a8 o_8,aI o_9,aI o_10,a8 o_11,a32 o_12,a8 o_13,aI o_14,a8 o_15,a32 o_16,(.isl 1 (rows q) none)]))
 (h23:limf env 23 [.agg [a8 o_1,a8 o_2,a32 o_3,a8 o_4,aI o_5,a8 o_6,a32 o_7,a8 o_8,aI o_9,aI o_10,a8 o_11,a32 o_12,a8 o_13,aI o_14,a8 o_15,a32 o_16,(.isl 1 (rows q) none)]]=some (.tup [.agg [a8 c_1,a32 c_2,a8 c_3,aI c_4,aI c_5,a8 c_6,a32 c_7,a8 c_8,aI c_9,(.fsl 1 (rows cl) none)],aI e1])) (h26:limf env 26 [.agg [a8 o_1,a8 o_2,a32 o_3,a8 o_4,aI o_5,a8 o_6,a32 o_7,a8 o_8,aI o_9,aI o_10,a8 o_11,a32 o_12,a8 o_13,aI o_14,a8 o_15,a32 o_16,x2]]=some (.tup [.agg [a8 c_1,a32 c_2,a8 c_3,aI c_4,aI c_5,a8 c_6,a32 c_7,a8 c_8,aI c_9,y1],aI e1])) (s1:Sl 1 (rows cl) y1)
 (h17:limf env 17 [.agg [a8 a_1,a32 a_2,a8 a_3,aI a_4,aI a_5,a8 a_6,a32 a_7,a8 a_8,aI a_9,(.isl 1 (rows l) none)],aI n]=some (.tup [.agg [a8 p_1,a32 p_2,a8 p_3,aI p_4,aI p_5,a8 p_6,a32 p_7,a8 p_8,aI p_9,(.fsl 1 (rows pl) none)],.agg [a8 u_1,a32 u_2,a8 u_3,aI u_4,aI u_5,a8 u_6,a32 u_7,a8 u_8,aI u_9,(.fsl 1 (rows ql) none)],aI e2])) (h27:limf env 27 [.agg [a8 a_1,a32 a_2,a8 a_3,aI a_4,aI a_5,a8 a_6,a32 a_7,a8 a_8,aI a_9,x0],aI n]=some (.tup [.agg [a8 p_1,a32 p_2,a8 p_3,aI p_4,aI p_5,a8 p_6,a32 p_7,a8 p_8,aI p_9,y2],.agg [a8 u_1,a32 u_2,a8 u_3,aI u_4,aI u_5,a8 u_6,a32 u_7,a8 u_8,aI u_9,y3],aI e2])) (s2:Sl 1 (rows pl) y2) (s3:Sl 1 (rows ql) y3)
 (h16:limf env 16 [.agg [a8 a_1,a32 a_2,a8 a_3,aI a_4,aI a_5,a8 a_6,a32 a_7,a8 a_8,aI a_9,(.isl 1 (rows l) none)],.agg [a8 b_1,a32 b_2,a8 b_3,aI b_4,aI b_5,a8 b_6,a32 b_7,a8 b_8,aI b_9,(.isl 1 (rows m) none)]]=some (.tup [.agg [a8 t_1,a32 t_2,a8 t_3,aI t_4,aI t_5,a8 t_6,a32 t_7,a8 t_8,aI t_9,aNil],aI e3])) (h28:limf env 28 [.agg [a8 a_1,a32 a_2,a8 a_3,aI a_4,aI a_5,a8 a_6,a32 a_7,a8 a_8,aI a_9,x0],.agg [a8 b_1,a32 b_2,a8 b_3,aI b_4,aI b_5,a8 b_6,a32 b_7,a8 b_8,aI b_9,x1]]=some (.tup [.agg [a8 t_1,a32 t_2,a8 t_3,aI t_4,aI t_5,a8 t_6,a32 t_7,a8 t_8,aI t_9,y4],aI e3])) (s4:Sl 1 (rows ([]:List Int)) y4)
 (h20:limf env 20 [.agg [a8 a_1,a32 a_2,a8 a_3,aI a_4,aI a_5,a8 a_6,a32 a_7,a8 a_8,aI a_9,(.isl 1 (rows l) none)],aI n]=some (.tup [.agg [a8 i_1,a32 i_2,a8 i_3,aI i_4],.agg [a8 j_1,a32 j_2,a8 j_3,aI j_4],.v (.int .i32 k),aI e4])) (h29:limf env 29 [.agg [a8 a_1,a32 a_2,a8 a_3,aI a_4,aI a_5,a8 a_6,a32 a_7,a8 a_8,aI a_9,x0],aI n]=some (.tup [.agg [a8 i_1,a32 i_2,a8 i_3,aI i_4],.agg [a8 j_1,a32 j_2,a8 j_3,aI j_4],.v (.int .i32 k),aI e4]))
 (h31:limf env 31 [.agg [a8 a_1,a32 a_2,a8 a_3,aI a_4,aI a_5,a8 a_6,a32 a_7,a8 a_8,aI a_9,(.isl 1 (rows l) none)]]=some (.agg [a8 a_1,a32 a_2,a8 a_3,aI a_4,aI a_5,a8 a_6,a32 a_7,a8 a_8,aI a_9,(.fsl 1 (rows l) none)]))
 (hS1:limf env 30 [.agg [a8 c_1,a32 c_2,a8 c_3,aI c_4,aI c_5,a8 c_6,a32 c_7,a8 c_8,aI c_9,(.isl 1 (rows cl) none)],.agg [a8 c_1,a32 c_2,a8 c_3,aI c_4,aI c_5,a8 c_6,a32 c_7,a8 c_8,aI c_9,y1]]=some (aB true)) (hS2:limf env 30 [.agg [a8 p_1,a32 p_2,a8 p_3,aI p_4,aI p_5,a8 p_6,a32 p_7,a8 p_8,aI p_9,(.isl 1 (rows pl) none)],.agg [a8 p_1,a32 p_2,a8 p_3,aI p_4,aI p_5,a8 p_6,a32 p_7,a8 p_8,aI p_9,y2]]=some (aB true)) (hS3:limf env 30 [.agg [a8 u_1,a32 u_2,a8 u_3,aI u_4,aI u_5,a8 u_6,a32 u_7,a8 u_8,aI u_9,(.isl 1 (rows ql) none)],.agg [a8 u_1,a32 u_2,a8 u_3,aI u_4,aI u_5,a8 u_6,a32 u_7,a8 u_8,aI u_9,y3]]=some (aB true)) (hS4:limf env 30 [.agg [a8 t_1,a32 t_2,a8 t_3,aI t_4,aI t_5,a8 t_6,a32 t_7,a8 t_8,aI t_9,aNil],.agg [a8 t_1,a32 t_2,a8 t_3,aI t_4,aI t_5,a8 t_6,a32 t_7,a8 t_8,aI t_9,y4]]=some (aB true))
 (h19:limf env 19 [.agg [a8 a_1,a32 a_2,a8 a_3,aI a_4,aI a_5,a8 a_6,a32 a_7,a8 a_8,aI a_9,(.isl 1 (rows l) none)]]=some (aI e5)) (h32:limf env 32 [.agg [a8 a_1,a32 a_2,a8 a_3,aI a_4,aI a_5,a8 a_6,a32 a_7,a8 a_8,aI a_9,x0]]=some (aI e5)) (h18:limf env 18 [.agg [a8 a_1,a32 a_2,a8 a_3,aI a_4,aI a_5,a8 a_6,a32 a_7,a8 a_8,aI a_9,(.isl 1 (rows l) none)],.agg [a8 b_1,a32 b_2,a8 b_3,aI b_4,aI b_5,a8 b_6,a32 b_7,a8 b_8,aI b_9,(.isl 1 (rows m) none)]]=some (aB same)) (h30:limf env 30 [.agg [a8 a_1,a32 a_2,a8 a_3,aI a_4,aI a_5,a8 a_6,a32 a_7,a8 a_8,aI a_9,x0],.agg [a8 b_1,a32 b_2,a8 b_3,aI b_4,aI b_5,a8 b_6,a32 b_7,a8 b_8,aI b_9,x1]]=some (aB same)) (h18':limf env 18 [.agg [a8 a_1,a32 a_2,a8 a_3,aI a_4,aI a_5,a8 a_6,a32 a_7,a8 a_8,aI a_9,(.isl 1 (rows l) none)],.agg [a8 a_1,a32 a_2,a8 a_3,aI a_4,aI a_5,a8 a_6,a32 a_7,a8 a_8,aI a_9,x0]]=some (aB true)) (h30':limf env 30 [.agg [a8 a_1,a32 a_2,a8 a_3,aI a_4,aI a_5,a8 a_6,a32 a_7,a8 a_8,aI a_9,(.isl 1 (rows l) none)],.agg [a8 a_1,a32 a_2,a8 a_3,aI a_4,aI a_5,a8 a_6,a32 a_7,a8 a_8,aI a_9,x0]]=some (aB true)) (h30'':limf env 30 [.agg [a8 b_1,a32 b_2,a8 b_3,aI b_4,aI b_5,a8 b_6,a32 b_7,a8 b_8,aI b_9,(.isl 1 (rows m) none)],.agg [a8 b_1,a32 b_2,a8 b_3,aI b_4,aI b_5,a8 b_6,a32 b_7,a8 b_8,aI b_9,x1]]=some (aB true)) (h34:limf env 34 [.agg [a8 o_1,a8 o_2,a32 o_3,a8 o_4,aI o_5,a8 o_6,a32 o_7,a8 o_8,aI o_9,aI o_10,a8 o_11,a32 o_12,a8 o_13,aI o_14,a8 o_15,a32 o_16,(.isl 1 (rows q) none)],.agg [a8 o_1,a8 o_2,a32 o_3,a8 o_4,aI o_5,a8 o_6,a32 o_7,a8 o_8,aI o_9,aI o_10,a8 o_11,a32 o_12,a8 o_13,aI o_14,a8 o_15,a32 o_16,x2]]=some (aB true)) :
 limf env 6 [.agg [a8 a_1,a32 a_2,a8 a_3,aI a_4,aI a_5,a8 a_6,a32 a_7,a8 a_8,aI a_9,x0],.agg [a8 b_1,a32 b_2,a8 b_3,aI b_4,aI b_5,a8 b_6,a32 b_7,a8 b_8,aI b_9,x1],.agg [a8 o_1,a8 o_2,a32 o_3,a8 o_4,aI o_5,a8 o_6,a32 o_7,a8 o_8,aI o_9,aI o_10,a8 o_11,a32 o_12,a8 o_13,aI o_14,a8 o_15,a32 o_16,x2],aI n]=some (aB true):=by
 have hF1:=fun H r=>aG (H:=H) (f:=24) (by kernel_rfl) false 0 r (args:=[.agg [a8 a_1,a32 a_2,a8 a_3,aI a_4,aI a_5,a8 a_6,a32 a_7,a8 a_8,aI a_9,x0]]) (by simp[hx.r]) (by simp[hx.r]) hT1
 have hF2:=fun H r=>aG (H:=H) (f:=24) (by kernel_rfl) false 0 r (args:=[.agg [a8 b_1,a32 b_2,a8 b_3,aI b_4,aI b_5,a8 b_6,a32 b_7,a8 b_8,aI b_9,x1]]) (by simp[hy.r]) (by simp[hy.r]) hT2
 have fcl:=aF cl
 have fpl:=aF pl
 have fql:=aF ql
 have fl:=aF l
 clear hT1 hT2
 refine aC (fn:=Try.f6) (c:=ai) rfl (by kernel_rfl) (by kernel_rfl) (by kernel_rfl) (by kernel_rfl) ?_;refine aq _ _ _ _ _ _ fun g=>?_
 simp[ar,au,ae,af,ab, *,aj,hx.r,hy.r,hz.r,s1.r,s2.r,s3.r,s4.r,frzB,eqA,eqFs]
 refine az c_1 c_2 c_3 c_4 c_5 c_6 c_7 c_8 c_9 cl ?_ ?_ bcl (fun v0 J0 F0 k0=>?_)
 ·exact bz rfl
 ·exact(.inr ⟨⟨0,61,0,0⟩,none,by simp,rfl⟩)
 have c0_p:=k0 ⟨0,16,0,0⟩ _ (fun e=>by cases e) rfl
 have r0_p:=k0 ⟨0,72,0,0⟩ _ (fun e=>by cases e) rfl
 have c0_u:=k0 ⟨0,17,0,0⟩ _ (fun e=>by cases e) rfl
 have r0_u:=k0 ⟨0,72,0,1⟩ _ (fun e=>by cases e) rfl
 have c0_t:=k0 ⟨0,22,0,0⟩ _ (fun e=>by cases e) rfl
 have c0_v:=k0 ⟨0,35,0,0⟩ _ (fun e=>by cases e) rfl
 have r0_v:=k0 ⟨0,145,0,0⟩ _ (fun e=>by cases e) rfl
 have d0_4:=k0 ⟨0,4,0,0⟩ _ (fun e=>by cases e) rfl
 have d0_5:=k0 ⟨0,5,0,0⟩ _ (fun e=>by cases e) rfl
 have d0_6:=k0 ⟨0,6,0,0⟩ _ (fun e=>by cases e) rfl
 have d0_9:=k0 ⟨0,9,0,0⟩ _ (fun e=>by cases e) rfl
 have d0_10:=k0 ⟨0,10,0,0⟩ _ (fun e=>by cases e) rfl
 have d0_11:=k0 ⟨0,11,0,0⟩ _ (fun e=>by cases e) rfl
 have w0_x:=k0 ⟨0,54,0,0⟩ _ (fun e=>by cases e) rfl
 have w0_y:=k0 ⟨0,56,0,0⟩ _ (fun e=>by cases e) rfl
 clear k0
 simp[c0_p]
 refine az p_1 p_2 p_3 p_4 p_5 p_6 p_7 p_8 p_9 pl ?_ ?_ bpl (fun v1 J1 F1 k1=>?_)
 ·exact F0
 ·exact(.inr ⟨⟨0,72,0,0⟩,none,by simp,r0_p⟩)
 have c1_u:=k1 ⟨0,17,0,0⟩ _ (fun e=>by cases e) c0_u
 have r1_u:=k1 ⟨0,72,0,1⟩ _ (fun e=>by cases e) r0_u
 have c1_t:=k1 ⟨0,22,0,0⟩ _ (fun e=>by cases e) c0_t
 have c1_v:=k1 ⟨0,35,0,0⟩ _ (fun e=>by cases e) c0_v
 have r1_v:=k1 ⟨0,145,0,0⟩ _ (fun e=>by cases e) r0_v
 have d1_4:=k1 ⟨0,4,0,0⟩ _ (fun e=>by cases e) d0_4
 have d1_5:=k1 ⟨0,5,0,0⟩ _ (fun e=>by cases e) d0_5
 have d1_6:=k1 ⟨0,6,0,0⟩ _ (fun e=>by cases e) d0_6
 have d1_9:=k1 ⟨0,9,0,0⟩ _ (fun e=>by cases e) d0_9
 have d1_10:=k1 ⟨0,10,0,0⟩ _ (fun e=>by cases e) d0_10
 have d1_11:=k1 ⟨0,11,0,0⟩ _ (fun e=>by cases e) d0_11
 have w1_x:=k1 ⟨0,54,0,0⟩ _ (fun e=>by cases e) w0_x
 have w1_y:=k1 ⟨0,56,0,0⟩ _ (fun e=>by cases e) w0_y
 clear k1
 simp[c1_u]
 refine az u_1 u_2 u_3 u_4 u_5 u_6 u_7 u_8 u_9 ql ?_ ?_ bql (fun v2 J2 F2 k2=>?_)
 ·exact F1
 ·exact(.inr ⟨⟨0,72,0,1⟩,none,by simp,r1_u⟩)
 have c2_t:=k2 ⟨0,22,0,0⟩ _ (fun e=>by cases e) c1_t
 have c2_v:=k2 ⟨0,35,0,0⟩ _ (fun e=>by cases e) c1_v
 have r2_v:=k2 ⟨0,145,0,0⟩ _ (fun e=>by cases e) r1_v
 have d2_4:=k2 ⟨0,4,0,0⟩ _ (fun e=>by cases e) d1_4
 have d2_5:=k2 ⟨0,5,0,0⟩ _ (fun e=>by cases e) d1_5
 have d2_6:=k2 ⟨0,6,0,0⟩ _ (fun e=>by cases e) d1_6
 have d2_9:=k2 ⟨0,9,0,0⟩ _ (fun e=>by cases e) d1_9
 have d2_10:=k2 ⟨0,10,0,0⟩ _ (fun e=>by cases e) d1_10
 have d2_11:=k2 ⟨0,11,0,0⟩ _ (fun e=>by cases e) d1_11
 have w2_x:=k2 ⟨0,54,0,0⟩ _ (fun e=>by cases e) w1_x
 have w2_y:=k2 ⟨0,56,0,0⟩ _ (fun e=>by cases e) w1_y
 clear k2
 simp[c2_t]
 refine az t_1 t_2 t_3 t_4 t_5 t_6 t_7 t_8 t_9 ([]:List Int) ?_ ?_ (by simp) (fun v3 J3 F3 k3=>?_)
 ·exact F2
 ·exact(.inl ⟨rfl,rfl⟩)
 have c3_v:=k3 ⟨0,35,0,0⟩ _ (fun e=>by cases e) c2_v
 have r3_v:=k3 ⟨0,145,0,0⟩ _ (fun e=>by cases e) r2_v
 have d3_4:=k3 ⟨0,4,0,0⟩ _ (fun e=>by cases e) d2_4
 have d3_5:=k3 ⟨0,5,0,0⟩ _ (fun e=>by cases e) d2_5
 have d3_6:=k3 ⟨0,6,0,0⟩ _ (fun e=>by cases e) d2_6
 have d3_9:=k3 ⟨0,9,0,0⟩ _ (fun e=>by cases e) d2_9
 have d3_10:=k3 ⟨0,10,0,0⟩ _ (fun e=>by cases e) d2_10
 have d3_11:=k3 ⟨0,11,0,0⟩ _ (fun e=>by cases e) d2_11
 have w3_x:=k3 ⟨0,54,0,0⟩ _ (fun e=>by cases e) w2_x
 have w3_y:=k3 ⟨0,56,0,0⟩ _ (fun e=>by cases e) w2_y
 clear k3
 simp[c3_v]
 refine az a_1 a_2 a_3 a_4 a_5 a_6 a_7 a_8 a_9 l ?_ ?_ (by omega) (fun v4 J4 F4 k4=>?_)
 ·exact F3
 ·exact(.inr ⟨⟨0,145,0,0⟩,none,by simp,r3_v⟩)
 have d4_4:=k4 ⟨0,4,0,0⟩ _ (fun e=>by cases e) d3_4
 have d4_5:=k4 ⟨0,5,0,0⟩ _ (fun e=>by cases e) d3_5
 have d4_6:=k4 ⟨0,6,0,0⟩ _ (fun e=>by cases e) d3_6
 have d4_9:=k4 ⟨0,9,0,0⟩ _ (fun e=>by cases e) d3_9
 have d4_10:=k4 ⟨0,10,0,0⟩ _ (fun e=>by cases e) d3_10
 have d4_11:=k4 ⟨0,11,0,0⟩ _ (fun e=>by cases e) d3_11
 have w4_x:=k4 ⟨0,54,0,0⟩ _ (fun e=>by cases e) w3_x
 have w4_y:=k4 ⟨0,56,0,0⟩ _ (fun e=>by cases e) w3_y
 clear k4
 simp[d4_4,d4_5,d4_6,d4_9,d4_10,d4_11,w4_x,w4_y,hx.r,hy.r,hz.r,h30',h30'',h34]
set_option maxHeartbeats 4000000 in
theorem q6(a_1:UInt8)(a_2:UInt32)(a_3:UInt8)(a_4:Int)(a_5:Int)(a_6:UInt8)(a_7:UInt32)(a_8:UInt8)(a_9:Int)(b_1:UInt8)(b_2:UInt32)(b_3:UInt8)(b_4:Int)(b_5:Int)(b_6:UInt8)(b_7:UInt32)(b_8:UInt8)(b_9:Int)(o_1:UInt8)(o_2:UInt8)(o_3:UInt32)(o_4:UInt8)(o_5:Int)(o_6:UInt8)(o_7:UInt32)(o_8:UInt8)(o_9:Int)(o_10:Int)(o_11:UInt8)(o_12:UInt32)(o_13:UInt8)(o_14:Int)(o_15:UInt8)(o_16:UInt32)(c_1:UInt8)(c_2:UInt32)(c_3:UInt8)(c_4:Int)(c_5:Int)(c_6:UInt8)(c_7:UInt32)(c_8:UInt8)(c_9:Int)(p_1:UInt8)(p_2:UInt32)(p_3:UInt8)(p_4:Int)(p_5:Int)(p_6:UInt8)(p_7:UInt32)(p_8:UInt8)(p_9:Int)(u_1:UInt8)(u_2:UInt32)(u_3:UInt8)(u_4:Int)(u_5:Int)(u_6:UInt8)(u_7:UInt32)(u_8:UInt8)(u_9:Int)(t_1:UInt8)(t_2:UInt32)(t_3:UInt8)(t_4:Int)(t_5:Int)(t_6:UInt8)(t_7:UInt32)(t_8:UInt8)(t_9:Int)(i_1:UInt8)(i_2:UInt32)(i_3:UInt8)(i_4:Int)(j_1:UInt8)(j_2:UInt32)(j_3:UInt8)(j_4:Int)(n k e1 e2 e3 e4 e5:Int)(same:Bool){x0 x1 x2 y1 y2 y3 y4:AV}{l m q cl pl ql tl:List Int}
 (hx:Sl 1 (rows l) x0) (hy:Sl 1 (rows m) x1) (hz:Sl 1 (rows q) x2)
 (nl:rows l≠[]) (gl : ¬(1000:Int)<l.length)
 (nm:rows m≠[]) (gm : ¬(1000:Int)<m.length)
 (nq:rows q≠[]) (gq : ¬(1000:Int)<q.length)
 (ncl:rows cl≠[]) (bcl:cl.length<100000)
 (npl:rows pl≠[]) (bpl:pl.length<100000)
 (nql:rows ql≠[]) (bql:ql.length<100000)
 (ntl:rows tl≠[]) (btl:tl.length<100000)
 (hT1:limf env 24 [.agg [a8 a_1,a32 a_2,a8 a_3,aI a_4,aI a_5,a8 a_6,a32 a_7,a8 a_8,aI a_9,x0]]=some (.agg [a8 a_1,a32 a_2,a8 a_3,aI a_4,aI a_5,a8 a_6,a32 a_7,a8 a_8,aI a_9,(.fsl 1 (rows l) none)])) (hT2:limf env 24 [.agg [a8 b_1,a32 b_2,a8 b_3,aI b_4,aI b_5,a8 b_6,a32 b_7,a8 b_8,aI b_9,x1]]=some (.agg [a8 b_1,a32 b_2,a8 b_3,aI b_4,aI b_5,a8 b_6,a32 b_7,a8 b_8,aI b_9,(.fsl 1 (rows m) none)])) (hT3:limf env 25 [.agg [a8 o_1,a8 o_2,a32 o_3,a8 o_4,aI o_5,a8 o_6,a32 o_7,a8 o_8,aI o_9,aI o_10,a8 o_11,a32 o_12,a8 o_13,aI o_14,a8 o_15,a32 o_16,x2]]=some (.agg [a8 o_1,a8 o_2,a32 o_3,a8 o_4,aI o_5,a8 o_6,a32 o_7,a8 o_8,aI o_9,aI o_10,a8 o_11,a32 o_12,a8 o_13,aI o_14,a8 o_15,a32 o_16,(.isl 1 (rows q) none)]))
 (h23:limf env 23 [.agg [a8 o_1,a8 o_2,a32 o_3,a8 o_4,aI o_5,a8 o_6,a32 o_7,a8 o_8,aI o_9,aI o_10,a8 o_11,a32 o_12,a8 o_13,aI o_14,a8 o_15,a32 o_16,(.isl 1 (rows q) none)]]=some (.tup [.agg [a8 c_1,a32 c_2,a8 c_3,aI c_4,aI c_5,a8 c_6,a32 c_7,a8 c_8,aI c_9,(.fsl 1 (rows cl) none)],aI e1])) (h26:limf env 26 [.agg [a8 o_1,a8 o_2,a32 o_3,a8 o_4,aI o_5,a8 o_6,a32 o_7,a8 o_8,aI o_9,aI o_10,a8 o_11,a32 o_12,a8 o_13,aI o_14,a8 o_15,a32 o_16,x2]]=some (.tup [.agg [a8 c_1,a32 c_2,a8 c_3,aI c_4,aI c_5,a8 c_6,a32 c_7,a8 c_8,aI c_9,y1],aI e1])) (s1:Sl 1 (rows cl) y1)
 (h17:limf env 17 [.agg [a8 a_1,a32 a_2,a8 a_3,aI a_4,aI a_5,a8 a_6,a32 a_7,a8 a_8,aI a_9,(.isl 1 (rows l) none)],aI n]=some (.tup [.agg [a8 p_1,a32 p_2,a8 p_3,aI p_4,aI p_5,a8 p_6,a32 p_7,a8 p_8,aI p_9,(.fsl 1 (rows pl) none)],.agg [a8 u_1,a32 u_2,a8 u_3,aI u_4,aI u_5,a8 u_6,a32 u_7,a8 u_8,aI u_9,(.fsl 1 (rows ql) none)],aI e2])) (h27:limf env 27 [.agg [a8 a_1,a32 a_2,a8 a_3,aI a_4,aI a_5,a8 a_6,a32 a_7,a8 a_8,aI a_9,x0],aI n]=some (.tup [.agg [a8 p_1,a32 p_2,a8 p_3,aI p_4,aI p_5,a8 p_6,a32 p_7,a8 p_8,aI p_9,y2],.agg [a8 u_1,a32 u_2,a8 u_3,aI u_4,aI u_5,a8 u_6,a32 u_7,a8 u_8,aI u_9,y3],aI e2])) (s2:Sl 1 (rows pl) y2) (s3:Sl 1 (rows ql) y3)
 (h16:limf env 16 [.agg [a8 a_1,a32 a_2,a8 a_3,aI a_4,aI a_5,a8 a_6,a32 a_7,a8 a_8,aI a_9,(.isl 1 (rows l) none)],.agg [a8 b_1,a32 b_2,a8 b_3,aI b_4,aI b_5,a8 b_6,a32 b_7,a8 b_8,aI b_9,(.isl 1 (rows m) none)]]=some (.tup [.agg [a8 t_1,a32 t_2,a8 t_3,aI t_4,aI t_5,a8 t_6,a32 t_7,a8 t_8,aI t_9,(.fsl 1 (rows tl) none)],aI e3])) (h28:limf env 28 [.agg [a8 a_1,a32 a_2,a8 a_3,aI a_4,aI a_5,a8 a_6,a32 a_7,a8 a_8,aI a_9,x0],.agg [a8 b_1,a32 b_2,a8 b_3,aI b_4,aI b_5,a8 b_6,a32 b_7,a8 b_8,aI b_9,x1]]=some (.tup [.agg [a8 t_1,a32 t_2,a8 t_3,aI t_4,aI t_5,a8 t_6,a32 t_7,a8 t_8,aI t_9,y4],aI e3])) (s4:Sl 1 (rows tl) y4)
 (h20:limf env 20 [.agg [a8 a_1,a32 a_2,a8 a_3,aI a_4,aI a_5,a8 a_6,a32 a_7,a8 a_8,aI a_9,(.isl 1 (rows l) none)],aI n]=some (.tup [.agg [a8 i_1,a32 i_2,a8 i_3,aI i_4],.agg [a8 j_1,a32 j_2,a8 j_3,aI j_4],.v (.int .i32 k),aI e4])) (h29:limf env 29 [.agg [a8 a_1,a32 a_2,a8 a_3,aI a_4,aI a_5,a8 a_6,a32 a_7,a8 a_8,aI a_9,x0],aI n]=some (.tup [.agg [a8 i_1,a32 i_2,a8 i_3,aI i_4],.agg [a8 j_1,a32 j_2,a8 j_3,aI j_4],.v (.int .i32 k),aI e4]))
 (h31:limf env 31 [.agg [a8 a_1,a32 a_2,a8 a_3,aI a_4,aI a_5,a8 a_6,a32 a_7,a8 a_8,aI a_9,(.isl 1 (rows l) none)]]=some (.agg [a8 a_1,a32 a_2,a8 a_3,aI a_4,aI a_5,a8 a_6,a32 a_7,a8 a_8,aI a_9,(.fsl 1 (rows l) none)]))
 (hS1:limf env 30 [.agg [a8 c_1,a32 c_2,a8 c_3,aI c_4,aI c_5,a8 c_6,a32 c_7,a8 c_8,aI c_9,(.isl 1 (rows cl) none)],.agg [a8 c_1,a32 c_2,a8 c_3,aI c_4,aI c_5,a8 c_6,a32 c_7,a8 c_8,aI c_9,y1]]=some (aB true)) (hS2:limf env 30 [.agg [a8 p_1,a32 p_2,a8 p_3,aI p_4,aI p_5,a8 p_6,a32 p_7,a8 p_8,aI p_9,(.isl 1 (rows pl) none)],.agg [a8 p_1,a32 p_2,a8 p_3,aI p_4,aI p_5,a8 p_6,a32 p_7,a8 p_8,aI p_9,y2]]=some (aB true)) (hS3:limf env 30 [.agg [a8 u_1,a32 u_2,a8 u_3,aI u_4,aI u_5,a8 u_6,a32 u_7,a8 u_8,aI u_9,(.isl 1 (rows ql) none)],.agg [a8 u_1,a32 u_2,a8 u_3,aI u_4,aI u_5,a8 u_6,a32 u_7,a8 u_8,aI u_9,y3]]=some (aB true)) (hS4:limf env 30 [.agg [a8 t_1,a32 t_2,a8 t_3,aI t_4,aI t_5,a8 t_6,a32 t_7,a8 t_8,aI t_9,(.isl 1 (rows tl) none)],.agg [a8 t_1,a32 t_2,a8 t_3,aI t_4,aI t_5,a8 t_6,a32 t_7,a8 t_8,aI t_9,y4]]=some (aB true))
 (h19:limf env 19 [.agg [a8 a_1,a32 a_2,a8 a_3,aI a_4,aI a_5,a8 a_6,a32 a_7,a8 a_8,aI a_9,(.isl 1 (rows l) none)]]=some (aI e5)) (h32:limf env 32 [.agg [a8 a_1,a32 a_2,a8 a_3,aI a_4,aI a_5,a8 a_6,a32 a_7,a8 a_8,aI a_9,x0]]=some (aI e5)) (h18:limf env 18 [.agg [a8 a_1,a32 a_2,a8 a_3,aI a_4,aI a_5,a8 a_6,a32 a_7,a8 a_8,aI a_9,(.isl 1 (rows l) none)],.agg [a8 b_1,a32 b_2,a8 b_3,aI b_4,aI b_5,a8 b_6,a32 b_7,a8 b_8,aI b_9,(.isl 1 (rows m) none)]]=some (aB same)) (h30:limf env 30 [.agg [a8 a_1,a32 a_2,a8 a_3,aI a_4,aI a_5,a8 a_6,a32 a_7,a8 a_8,aI a_9,x0],.agg [a8 b_1,a32 b_2,a8 b_3,aI b_4,aI b_5,a8 b_6,a32 b_7,a8 b_8,aI b_9,x1]]=some (aB same)) (h18':limf env 18 [.agg [a8 a_1,a32 a_2,a8 a_3,aI a_4,aI a_5,a8 a_6,a32 a_7,a8 a_8,aI a_9,(.isl 1 (rows l) none)],.agg [a8 a_1,a32 a_2,a8 a_3,aI a_4,aI a_5,a8 a_6,a32 a_7,a8 a_8,aI a_9,x0]]=some (aB true)) (h30':limf env 30 [.agg [a8 a_1,a32 a_2,a8 a_3,aI a_4,aI a_5,a8 a_6,a32 a_7,a8 a_8,aI a_9,(.isl 1 (rows l) none)],.agg [a8 a_1,a32 a_2,a8 a_3,aI a_4,aI a_5,a8 a_6,a32 a_7,a8 a_8,aI a_9,x0]]=some (aB true)) (h30'':limf env 30 [.agg [a8 b_1,a32 b_2,a8 b_3,aI b_4,aI b_5,a8 b_6,a32 b_7,a8 b_8,aI b_9,(.isl 1 (rows m) none)],.agg [a8 b_1,a32 b_2,a8 b_3,aI b_4,aI b_5,a8 b_6,a32 b_7,a8 b_8,aI b_9,x1]]=some (aB true)) (h34:limf env 34 [.agg [a8 o_1,a8 o_2,a32 o_3,a8 o_4,aI o_5,a8 o_6,a32 o_7,a8 o_8,aI o_9,aI o_10,a8 o_11,a32 o_12,a8 o_13,aI o_14,a8 o_15,a32 o_16,(.isl 1 (rows q) none)],.agg [a8 o_1,a8 o_2,a32 o_3,a8 o_4,aI o_5,a8 o_6,a32 o_7,a8 o_8,aI o_9,aI o_10,a8 o_11,a32 o_12,a8 o_13,aI o_14,a8 o_15,a32 o_16,x2]]=some (aB true)) :
 limf env 6 [.agg [a8 a_1,a32 a_2,a8 a_3,aI a_4,aI a_5,a8 a_6,a32 a_7,a8 a_8,aI a_9,x0],.agg [a8 b_1,a32 b_2,a8 b_3,aI b_4,aI b_5,a8 b_6,a32 b_7,a8 b_8,aI b_9,x1],.agg [a8 o_1,a8 o_2,a32 o_3,a8 o_4,aI o_5,a8 o_6,a32 o_7,a8 o_8,aI o_9,aI o_10,a8 o_11,a32 o_12,a8 o_13,aI o_14,a8 o_15,a32 o_16,x2],aI n]=some (aB true):=by
 have hF1:=fun H r=>aG (H:=H) (f:=24) (by kernel_rfl) false 0 r (args:=[.agg [a8 a_1,a32 a_2,a8 a_3,aI a_4,aI a_5,a8 a_6,a32 a_7,a8 a_8,aI a_9,x0]]) (by simp[hx.r]) (by simp[hx.r]) hT1
 have hF2:=fun H r=>aG (H:=H) (f:=24) (by kernel_rfl) false 0 r (args:=[.agg [a8 b_1,a32 b_2,a8 b_3,aI b_4,aI b_5,a8 b_6,a32 b_7,a8 b_8,aI b_9,x1]]) (by simp[hy.r]) (by simp[hy.r]) hT2
 have fcl:=aF cl
 have fpl:=aF pl
 have fql:=aF ql
 have ftl:=aF tl
 have fl:=aF l
 clear hT1 hT2
 refine aC (fn:=Try.f6) (c:=ai) rfl (by kernel_rfl) (by kernel_rfl) (by kernel_rfl) (by kernel_rfl) ?_;refine aq _ _ _ _ _ _ fun g=>?_
 simp[ar,au,ae,af,ab, *,aj,hx.r,hy.r,hz.r,s1.r,s2.r,s3.r,s4.r,frzB,eqA,eqFs]
 refine az c_1 c_2 c_3 c_4 c_5 c_6 c_7 c_8 c_9 cl ?_ ?_ bcl (fun v0 J0 F0 k0=>?_)
 ·exact bz rfl
 ·exact(.inr ⟨⟨0,61,0,0⟩,none,by simp,rfl⟩)
 have c0_p:=k0 ⟨0,16,0,0⟩ _ (fun e=>by cases e) rfl
 have r0_p:=k0 ⟨0,72,0,0⟩ _ (fun e=>by cases e) rfl
 have c0_u:=k0 ⟨0,17,0,0⟩ _ (fun e=>by cases e) rfl
 have r0_u:=k0 ⟨0,72,0,1⟩ _ (fun e=>by cases e) rfl
 have c0_t:=k0 ⟨0,22,0,0⟩ _ (fun e=>by cases e) rfl
 have r0_t:=k0 ⟨0,86,0,0⟩ _ (fun e=>by cases e) rfl
 have c0_v:=k0 ⟨0,35,0,0⟩ _ (fun e=>by cases e) rfl
 have r0_v:=k0 ⟨0,145,0,0⟩ _ (fun e=>by cases e) rfl
 have d0_4:=k0 ⟨0,4,0,0⟩ _ (fun e=>by cases e) rfl
 have d0_5:=k0 ⟨0,5,0,0⟩ _ (fun e=>by cases e) rfl
 have d0_6:=k0 ⟨0,6,0,0⟩ _ (fun e=>by cases e) rfl
 have d0_9:=k0 ⟨0,9,0,0⟩ _ (fun e=>by cases e) rfl
 have d0_10:=k0 ⟨0,10,0,0⟩ _ (fun e=>by cases e) rfl
 have d0_11:=k0 ⟨0,11,0,0⟩ _ (fun e=>by cases e) rfl
 have w0_x:=k0 ⟨0,54,0,0⟩ _ (fun e=>by cases e) rfl
 have w0_y:=k0 ⟨0,56,0,0⟩ _ (fun e=>by cases e) rfl
 clear k0
 simp[c0_p]
 refine az p_1 p_2 p_3 p_4 p_5 p_6 p_7 p_8 p_9 pl ?_ ?_ bpl (fun v1 J1 F1 k1=>?_)
 ·exact F0
 ·exact(.inr ⟨⟨0,72,0,0⟩,none,by simp,r0_p⟩)
 have c1_u:=k1 ⟨0,17,0,0⟩ _ (fun e=>by cases e) c0_u
 have r1_u:=k1 ⟨0,72,0,1⟩ _ (fun e=>by cases e) r0_u
 have c1_t:=k1 ⟨0,22,0,0⟩ _ (fun e=>by cases e) c0_t
 have r1_t:=k1 ⟨0,86,0,0⟩ _ (fun e=>by cases e) r0_t
 have c1_v:=k1 ⟨0,35,0,0⟩ _ (fun e=>by cases e) c0_v
 have r1_v:=k1 ⟨0,145,0,0⟩ _ (fun e=>by cases e) r0_v
 have d1_4:=k1 ⟨0,4,0,0⟩ _ (fun e=>by cases e) d0_4
 have d1_5:=k1 ⟨0,5,0,0⟩ _ (fun e=>by cases e) d0_5
 have d1_6:=k1 ⟨0,6,0,0⟩ _ (fun e=>by cases e) d0_6
 have d1_9:=k1 ⟨0,9,0,0⟩ _ (fun e=>by cases e) d0_9
 have d1_10:=k1 ⟨0,10,0,0⟩ _ (fun e=>by cases e) d0_10
 have d1_11:=k1 ⟨0,11,0,0⟩ _ (fun e=>by cases e) d0_11
 have w1_x:=k1 ⟨0,54,0,0⟩ _ (fun e=>by cases e) w0_x
 have w1_y:=k1 ⟨0,56,0,0⟩ _ (fun e=>by cases e) w0_y
 clear k1
 simp[c1_u]
 refine az u_1 u_2 u_3 u_4 u_5 u_6 u_7 u_8 u_9 ql ?_ ?_ bql (fun v2 J2 F2 k2=>?_)
 ·exact F1
 ·exact(.inr ⟨⟨0,72,0,1⟩,none,by simp,r1_u⟩)
 have c2_t:=k2 ⟨0,22,0,0⟩ _ (fun e=>by cases e) c1_t
 have r2_t:=k2 ⟨0,86,0,0⟩ _ (fun e=>by cases e) r1_t
 have c2_v:=k2 ⟨0,35,0,0⟩ _ (fun e=>by cases e) c1_v
 have r2_v:=k2 ⟨0,145,0,0⟩ _ (fun e=>by cases e) r1_v
 have d2_4:=k2 ⟨0,4,0,0⟩ _ (fun e=>by cases e) d1_4
 have d2_5:=k2 ⟨0,5,0,0⟩ _ (fun e=>by cases e) d1_5
 have d2_6:=k2 ⟨0,6,0,0⟩ _ (fun e=>by cases e) d1_6
 have d2_9:=k2 ⟨0,9,0,0⟩ _ (fun e=>by cases e) d1_9
 have d2_10:=k2 ⟨0,10,0,0⟩ _ (fun e=>by cases e) d1_10
 have d2_11:=k2 ⟨0,11,0,0⟩ _ (fun e=>by cases e) d1_11
 have w2_x:=k2 ⟨0,54,0,0⟩ _ (fun e=>by cases e) w1_x
 have w2_y:=k2 ⟨0,56,0,0⟩ _ (fun e=>by cases e) w1_y
 clear k2
 simp[c2_t]
 refine az t_1 t_2 t_3 t_4 t_5 t_6 t_7 t_8 t_9 tl ?_ ?_ btl (fun v3 J3 F3 k3=>?_)
 ·exact F2
 ·exact(.inr ⟨⟨0,86,0,0⟩,none,by simp,r2_t⟩)
 have c3_v:=k3 ⟨0,35,0,0⟩ _ (fun e=>by cases e) c2_v
 have r3_v:=k3 ⟨0,145,0,0⟩ _ (fun e=>by cases e) r2_v
 have d3_4:=k3 ⟨0,4,0,0⟩ _ (fun e=>by cases e) d2_4
 have d3_5:=k3 ⟨0,5,0,0⟩ _ (fun e=>by cases e) d2_5
 have d3_6:=k3 ⟨0,6,0,0⟩ _ (fun e=>by cases e) d2_6
 have d3_9:=k3 ⟨0,9,0,0⟩ _ (fun e=>by cases e) d2_9
 have d3_10:=k3 ⟨0,10,0,0⟩ _ (fun e=>by cases e) d2_10
 have d3_11:=k3 ⟨0,11,0,0⟩ _ (fun e=>by cases e) d2_11
 have w3_x:=k3 ⟨0,54,0,0⟩ _ (fun e=>by cases e) w2_x
 have w3_y:=k3 ⟨0,56,0,0⟩ _ (fun e=>by cases e) w2_y
 clear k3
 simp[c3_v]
 refine az a_1 a_2 a_3 a_4 a_5 a_6 a_7 a_8 a_9 l ?_ ?_ (by omega) (fun v4 J4 F4 k4=>?_)
 ·exact F3
 ·exact(.inr ⟨⟨0,145,0,0⟩,none,by simp,r3_v⟩)
 have d4_4:=k4 ⟨0,4,0,0⟩ _ (fun e=>by cases e) d3_4
 have d4_5:=k4 ⟨0,5,0,0⟩ _ (fun e=>by cases e) d3_5
 have d4_6:=k4 ⟨0,6,0,0⟩ _ (fun e=>by cases e) d3_6
 have d4_9:=k4 ⟨0,9,0,0⟩ _ (fun e=>by cases e) d3_9
 have d4_10:=k4 ⟨0,10,0,0⟩ _ (fun e=>by cases e) d3_10
 have d4_11:=k4 ⟨0,11,0,0⟩ _ (fun e=>by cases e) d3_11
 have w4_x:=k4 ⟨0,54,0,0⟩ _ (fun e=>by cases e) w3_x
 have w4_y:=k4 ⟨0,56,0,0⟩ _ (fun e=>by cases e) w3_y
 clear k4
 simp[d4_4,d4_5,d4_6,d4_9,d4_10,d4_11,w4_x,w4_y,hx.r,hy.r,hz.r,h30',h30'',h34]
end Go.Proofs.Ytjampffmlnplcaa
