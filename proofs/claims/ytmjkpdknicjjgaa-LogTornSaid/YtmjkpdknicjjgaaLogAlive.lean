/-
  The chapter's first examples, by the functions' answers. No statement of a seat is proved here.
-/
import Derived.Test.YtmjkpdknicjjgaaLogLaw
import Derived.Test.YtmjkpdknicjjgaaLgVc8
set_option linter.unusedVariables false
set_option linter.unusedSimpArgs false
set_option linter.unusedSectionVars false
set_option linter.unnecessarySimpa false
set_option maxRecDepth 100000
namespace Go.Proofs.Ytmjkpdknicjjgaa
open Go.Ab
attribute [local simp] cb bE bL bK keep thr cE bC bM eT eS bZ cD aW df List.take_of_length_le
def rA:Rcd:=⟨1,3,⟨0,⟨1,1,2⟩,0,⟨⟨⟨0,0,0⟩,0⟩,0⟩,⟨⟨0,0,0⟩,0⟩,⟨0,0⟩,[]⟩,0,0,0,0,false⟩
def rB:Rcd:=⟨2,0,⟨1,⟨1,1,2⟩,1,⟨⟨⟨1,1,2⟩,9⟩,64⟩,⟨⟨0,0,0⟩,0⟩,⟨0,0⟩,List.replicate 64 0⟩,0,0,0,0,false⟩
def xB:AV := .isl 1 (rows (List.replicate 64 0)) none
theorem s_h:limf env 31 []=some (.agg [a8 1,a32 1,a8 2]):=by
 refine aH (fn:=Try.f31) (c:=iG) rfl (by kernel_rfl) (by kernel_rfl) (by kernel_rfl) (by kernel_rfl) ?_;refine qE _ _ fun g=>?_
 simp [af,ah,ab,ad,aa, *,iK]
theorem s_rA:limf env 12 []=some (rA.val aNil):=by
 refine aH (fn:=Try.f12) (c:=iI) rfl (by kernel_rfl) (by kernel_rfl) (by kernel_rfl) (by kernel_rfl) ?_;refine qG _ _ fun g=>?_
 have h:=s_h
 unfold Rcd.val rA
 simp [af,ah,ab,ad,aa, *,iM]
theorem s_rB:limf env 13 []=some (rB.val xB):=by
 refine aH (fn:=Try.f13) (c:=iH) rfl (by kernel_rfl) (by kernel_rfl) (by kernel_rfl) (by kernel_rfl) ?_;refine qF _ _ fun g=>?_
 have h:=s_h
 have hmk:=uE (P:=env.P) (t:=40) (z:=1) (by':=4) (zz:=aR 0) (r:=⟨0,6,0,0⟩) (by kernel_rfl) (by kernel_rfl) (n:=64) (by decide) (by decide)
 rw [show ((64:Nat):Int)=64 from rfl] at hmk
 unfold Rcd.val rB xB
 have e:List.replicate 64 (aR 0)=rows (List.replicate 64 0):=by simp [rows]
 rw [e] at hmk
 have hl:(rows (List.replicate 64 0)).length=64:=by simp
 generalize rows (List.replicate 64 0)=R at *
 simp [af,ah,ab,ad,aa, *,iL]
theorem Ij : ∀p∈[(rA,aNil),(rB,xB)],okRc p:=by
 intro p hp
 simp only [List.mem_cons,List.not_mem_nil,or_false] at hp
 rcases hp with rfl | rfl
 ·exact ⟨.inl ⟨rfl,rfl⟩,by decide⟩
 ·exact ⟨Sl.mk _ _,by decide⟩
theorem LR:(putR (fresh (-1)) 0 1 [rA,rB]).2.2=true∧(putR (fresh (-1)) 0 1 [rA,rB]).2.1=4:=by
 have hff:=vU (-1)
 have hfm:=vT (n := -1) (by omega)
 have i1:eK rA=true:=by kernel_rfl
 have i2:eK rB=true:=by kernel_rfl
 have n1:recN rA=1:=by kernel_rfl
 have n2:recN rB=3:=by kernel_rfl
 have h1:appE (fresh (-1)) 0 0 1 rA=0:=by unfold appE;rw [if_pos hfm,if_pos (by decide),if_pos i1,n1];rfl
 have hok:=yj hff h1
 have h2:appE ((fresh (-1)).app 0 0 1 rA) 0 (0+recN rA) (1+1) rB=0:=by
  unfold appE
  rw [if_pos hok.2.1,if_pos (by rw [It,n1];decide),if_pos i2,n1,n2];rfl
 unfold putR
 rw [if_pos h1]
 unfold putR
 rw [if_pos h2,n1,n2]
 exact ⟨rfl,rfl⟩
theorem Hk:limf env 16 []=some (aB true):=by
 refine aH (fn:=Try.f16) (c:=gh) rfl (by kernel_rfl) (by kernel_rfl) (by kernel_rfl) (by kernel_rfl) ?_;refine nK _ _ fun g=>?_
 have ha:=s_rA
 have hb:=s_rB
 have hN:=Pv
 have hS:=Gt (n := -1) (by omega)
 have hff:=vU (-1)
 have hfm:=vT (n := -1) (by omega)
 have hsl:Sl 24 (du [(rA,aNil),(rB,xB)]) (.isl 24 [rA.val aNil,rB.val xB] (some 2)) := .inr ⟨some 2,rfl,by simp⟩
 have hP:=S7 hsl Ij (by simp) hff hfm 0 (nu:=1) (by omega)
 obtain ⟨hpf,hpm⟩:=DN [rA,rB] (fresh (-1)) 0 1 hff hfm
 obtain ⟨t1,t2⟩:=LR
 have hall:=JT [rA,rB] (fresh (-1)) 0 1 hff hfm rfl rfl (fun q _ _=>Kt _ _) t1
 rw [show rcs [(rA,aNil),(rB,xB)]=[rA,rB] from rfl,t1,t2] at hP
 generalize (putR (fresh (-1)) 0 1 [rA,rB]).1=d at *
 rw [t2] at hall
 have h4:(4:Int)=(sumN [rA,rB]:Nat):=by have:=hall.2.1;omega
 have e1:gY (fresh (-1)) 0 0 1000 2049 0 0=([],0):=qc (d:=fresh (-1)) (p:=0) (nu:=0) (most:=1000) [] 2049 0 0 trivial (pZ rfl) (by decide) (by decide)
 have e2:gY d 0 0 1000 2049 0 0=([rA,rB],4):=by
  have:=qc (d:=d) (p:=0) (nu:=0) (most:=1000) [rA,rB] 2049 0 0 (by simpa using hall.1) (pZ (hall.2.2.1 _ (by omega) (by omega))) (by decide) (by decide)
  rw [←h4] at this
  exact this
 have H1:=Gl (l:=[]) (x:=aNil) (.inl ⟨rfl,rfl⟩) (fun p hp=>by cases hp) (by simp) hff hfm 0
 have H2:=Gl hsl Ij (by simp) hpf hpm 4
 rw [e1] at H1
 rw [e2,show rcs [(rA,aNil),(rB,xB)]=[rA,rB] from rfl,qe] at H2
 have hxv:=hpf.sl.r
 have hbr:=(Sl.mk 1 (rows (List.replicate 64 0))).r
 clear hall hpf hpm hff hfm hsl t1 t2 h4 e1 e2
 obtain ⟨ll,y,st,lf,dd⟩:=d
 simp only [fresh,Dk.val,dsk] at *
 simp only [decide_true,Bool.true_and,rcs,List.map_nil,rf] at H1 H2
 unfold Rcd.val rA rB xB at *
 generalize rows (List.replicate 64 0)=R at *
 simp only at *
 simp [af,ah,ab,ad,aa, *,gk]
end Go.Proofs.Ytmjkpdknicjjgaa
