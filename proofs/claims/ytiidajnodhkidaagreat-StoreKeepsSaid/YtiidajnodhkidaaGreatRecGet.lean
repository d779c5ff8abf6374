/-
  Records: what record.Get answers. No statement of a seat is proved here.
-/
import Derived.Test.YtiidajnodhkidaaGreatRecPut
import Derived.Test.YtiidajnodhkidaaGreatMRdFns2
set_option linter.unusedVariables false
set_option linter.unusedSimpArgs false
set_option linter.unusedSectionVars false
set_option linter.unnecessarySimpa false
set_option maxRecDepth 100000
namespace Go.Proofs.YtiidajnodhkidaaGreat
open Go.Ab
attribute [local simp] ct bK bO bN keep thr cC bD bP eE eD cN cB aV dk List.take_of_length_le
def bV(l:List (List UInt8 × AV)):List AV:=l.map (·.2)
def okB(l:List (List UInt8 × AV)):Prop :=∀p∈l,Sl 1 (by8 p.1) p.2
def byB(l:List (List UInt8 × AV)):List (List UInt8):=l.map (·.1)
@[simp] theorem X5(l:List (List UInt8 × AV)):(bV l).length=l.length:=by simp[bV]
@[simp] theorem XF(l:List (List UInt8 × AV)):(byB l).length=l.length:=by simp[byB]
theorem MX{x y:AV}{l m:List (List UInt8 × AV)}(hx:Sl 1 (bV l) x)(hy:Sl 1 (bV m) y)(hl:okB l)(hm:okB m)(hlm:l.length=m.length)(hbig:l.length<1000000){Q:AV→Heap→Prop}{H:Heap} :
 ∀(s:List (List UInt8 × AV)) (k:Nat) (i:Int),l.drop k=s→k≤l.length→i=k→byB (l.take k)=byB (m.take k)→(Q (aB (decide (byB l=byB m))) H) →
 GoL env Tryz.f153 0 bH [(17,aI i),(2,.fn (.func 87) [] []),(1,y),(15,x),(16,aI l.length)] H Q:=by
 intro s
 induction s with
 | nil =>
  rintro k i hs hk rfl he hQ
  obtain rfl:=drop_nil hs hk
  rw[List.take_length,hlm,List.take_length]at he
  rw[he]at hQ
  refine cD _ _ _ _ _ _ _ fun g=>?_
  simp[af,ah,ad,ae,aa, *,bI]
  all_goals simpa using hQ
 | cons p s ih =>
  rintro k i hs hk rfl he hQ
  obtain⟨hlt,hg,hs',hg'⟩:=drop_cons hs
  have hlt2:k<m.length:=by omega
  have hpx:=hl p (hg ▸ List.getElem_mem _)
  have hpy:=hm (m[k]) (List.getElem_mem _)
  have hq:=wK hpx hpy
  have e3:=IntWalk.i64_in ((k:Int)+1) (by omega)
  have hg2:m[k]?=some m[k]:=List.getElem?_eq_getElem hlt2
  generalize hmq:m[k]=q at *
  have hr1:=hpx.r
  have hr2:=hpy.r
  by_cases hpq:p.1=q.1
  ·have he':byB (l.take (k+1))=byB (m.take (k+1)):=by
    unfold byB at he ⊢
    rw[List.take_add_one,List.take_add_one,hg',hg2,List.map_append,List.map_append,he]
    simp[hpq]
   have ih':=ih (k+1) ((k:Int)+1) hs' (by omega) (by simp) he' hQ
   clear ih hQ he he'
   have hd:decide (p.1=q.1)=true:=decide_eq_true hpq
   rw[hd]at hq
   refine cD _ _ _ _ _ _ _ fun g=>?_
   clear hpq
   rw[hlm]at ih'
   simp[af,ah,ad,ae,aa, *,bI,hx.idx,hy.idx,bV]
  ·have hne : ¬byB l=byB m:=by
    intro e
    have:=congrArg (fun z=>z[k]?) e
    simp only[byB,List.getElem?_map,hg',hg2,Option.map_some,Option.some.injEq]at this
    exact hpq this
   rw[decide_eq_false hne]at hQ
   rw[decide_eq_false hpq]at hq
   clear ih hpq hne
   refine cD _ _ _ _ _ _ _ fun g=>?_
   simp[af,ah,ad,ae,aa, *,bI,hx.idx,hy.idx,bV]
theorem WQ{x y:AV}{l m:List (List UInt8 × AV)}(hx:Sl 1 (bV l) x)(hy:Sl 1 (bV m) y)(hl:okB l)(hm:okB m)(hbig:l.length<1000000) :
 limf env 153 [x,y,.fn (.func 87) [] []]=some (aB (decide (byB l=byB m))):=by
 refine aH (fn:=Tryz.f153) (c:=cK) rfl (by kernel_rfl) (by kernel_rfl) (by kernel_rfl) (by kernel_rfl) ?_;refine fX _ _ _ _ _ fun g=>?_
 have hr1:=hx.r
 have hr2:=hy.r
 by_cases hlm:l.length=m.length
 ·have go:=MX hx hy hl hm hlm hbig (Q:=fun v H=>ia env 153 v H (aB (decide (byB l=byB m)))) (H:=[]) l 0 0 rfl (by omega) rfl (by simp) (by simp)
  have hli:(l.length:Int)=m.length:=by omega
  clear hl hm
  simp[af,ah,ad,ae,aa, *,cL]
  all_goals (first | exact go | simpa [hlm] using go)
 ·have hli : ¬(l.length:Int)=m.length:=by omega
  have hne : ¬byB l=byB m:=by intro e;exact hlm (by simpa using congrArg List.length e)
  rw[decide_eq_false hne]
  clear hne hlm
  simp[af,ah,ad,ae,aa, *,cL]
def nY(b:List UInt8):Rcd:=if decide (b.getD 1 0≤1)&&mayG (b.getD 0 0).toNat (b.getD 2 0) (u32 (val ((b.drop 3).take 4))) (decide (b.getD 1 0=1)) then ⟨0,0,jx,0,(b.getD 0 0).toNat,b.getD 2 0,u32 (val ((b.drop 3).take 4)),decide (b.getD 1 0=1)⟩ else ⟨0,0,jx,0,0,0,0,false⟩
theorem O6{c:Option Nat}{b0 b1 b2 b3 b4 b5 b6:UInt8}(hc:7≤c.getD 7) : ∃e,limf env 177 [.isl 1 [a8 b0,a8 b1,a8 b2,a8 b3,a8 b4,a8 b5,a8 b6] c] =
 some (.tup [.agg [aI (nY [b0,b1,b2,b3,b4,b5,b6]).gu,a8 (nY [b0,b1,b2,b3,b4,b5,b6]).gv,a32 (nY [b0,b1,b2,b3,b4,b5,b6]).gc,aB (nY [b0,b1,b2,b3,b4,b5,b6]).gok],aI e]):=by
 have hg:nY [b0,b1,b2,b3,b4,b5,b6]=if decide (b1≤1)&&mayG b0.toNat b2 (u32 (val [b3,b4,b5,b6])) (decide (b1=1)) then ⟨0,0,jx,0,b0.toNat,b2,u32 (val [b3,b4,b5,b6]),decide (b1=1)⟩ else ⟨0,0,jx,0,0,0,0,false⟩:=rfl
 rw[hg]
 clear hg
 have h7:(7:Int)≤c.getD 7:=by omega
 have hH:=xp (c:=none) (a:=b2) (n:=0) (b1:=b3) (b2:=b4) (b3:=b5) (b4:=b6) (by simp)
 generalize u32 (val [b3,b4,b5,b6])=cats at *
 by_cases h1:b1≤1
 ·by_cases hm:mayG b0.toNat b2 cats (decide (b1=1))=true
  ·refine⟨0,?_⟩
   refine aH (fn:=Tryz.f177) (c:=oc) rfl (by kernel_rfl) (by kernel_rfl) (by kernel_rfl) (by kernel_rfl) ?_;refine qz _ _ _ fun g=>?_
   have h15:iN ⟨b2,cats,0⟩=true:=by simp[mayG,DD]at hm;simp[iN,hm.2.1]
   have h1' : ¬1<b1:=UInt8.not_lt.2 h1
   simp[af,ah,ad,ae,aa, *,og,bad]
  ·refine⟨8,?_⟩
   refine aH (fn:=Tryz.f177) (c:=oc) rfl (by kernel_rfl) (by kernel_rfl) (by kernel_rfl) (by kernel_rfl) ?_;refine qz _ _ _ fun g=>?_
   have h1' : ¬1<b1:=UInt8.not_lt.2 h1
   simp only[Bool.not_eq_true]at hm
   cases h15:iN ⟨b2,cats,0⟩<;>simp[af,ah,ad,ae,aa, *,og,bad]
 ·refine⟨8,?_⟩
  refine aH (fn:=Tryz.f177) (c:=oc) rfl (by kernel_rfl) (by kernel_rfl) (by kernel_rfl) (by kernel_rfl) ?_;refine qz _ _ _ fun g=>?_
  have h1':1<b1:=UInt8.not_le.1 h1
  simp[af,ah,ad,ae,aa, *,og]
def opG(b:List UInt8):Opn:=if xU b then rawO b else jx
def fv(b:List UInt8):Rcd:=if b.getD 0 0=1 then ⟨1,(b.getD 7 0).toNat, { jx with h:=hanG ((b.drop 1).take 6)},0,0,0,0,false⟩
 else if b.getD 0 0=2 then ⟨2,0,opG (b.drop 3),val ((b.drop 1).take 2),0,0,0,false⟩
 else if b.getD 0 0=3 then { nY ((b.drop 1).take 7)with kind:=3}
 else ⟨b.getD 0 0,0,jx,0,0,0,0,false⟩
theorem xS(b:List UInt8):(nY b).user=0∧(nY b).op=jx∧(nY b).code=0:=by
 unfold nY;split<;>exact⟨rfl,rfl,rfl⟩
theorem wL:runG []=aNil:=rfl
theorem OS{b:List UInt8}{x:AV}(hx:Sl 1 (by8 b) x)(h8:8≤b.length)(hl:b.length<100000):limf env 152 [x]=some ((fv b).val (runG (fv b).op.l)):=by
 refine aH (fn:=Tryz.f152) (c:=q9) rfl (by kernel_rfl) (by kernel_rfl) (by kernel_rfl) (by kernel_rfl) ?_;refine xc _ _ _ fun g=>?_
 match b,h8 with
 | b0 :: b1 :: b2 :: b3 :: b4 :: b5 :: b6 :: b7 :: t,_ =>
 obtain⟨cp,rfl,hcp⟩:=qE hx (by simp)
 rw[nB]at hcp
 simp only[List.length_cons]at hcp hl
 have hcp1:t.length+7≤(cp.map (· - 1)).getD (t.length+7):=by cases cp<;>simp at hcp ⊢ <;> omega
 have h6:(6:Int)≤(cp.map (· - 1)).getD (t.length+7):=by omega
 have h6':(6:Int)≤((t.length+7:Nat):Int):=by omega
 have h7:(7:Int)≤(cp.map (· - 1)).getD (t.length+7):=by omega
 have h2:(2:Int)≤(cp.map (· - 1)).getD (t.length+7):=by omega
 have p1:(0:Int) < ↑t.length+1+1+1+1+1+1+1+1:=by omega
 have p2:(1:Int) ≤ ↑t.length+1+1+1+1+1+1+1+1:=by omega
 have p3:((t.length:Int)+1+1+1+1+1+1+1+1).toNat - 1=t.length+7:=by omega
 have p4:List.take (t.length+7) (a8 b1 :: a8 b2 :: a8 b3 :: a8 b4 :: a8 b5 :: a8 b6 :: a8 b7 :: List.map a8 t)=a8 b1 :: a8 b2 :: a8 b3 :: a8 b4 :: a8 b5 :: a8 b6 :: a8 b7 :: List.map a8 t:=List.take_of_length_le (by simp)
 have p5:Option.map ((fun x:Nat=>x) ∘ fun x=>x - 1) cp=Option.map (fun x=>x - 1) cp:=rfl
 have q6:6≤(cp.map (· - 1)).getD 6:=by cases cp<;>simp at hcp ⊢ <;> omega
 have q7:7≤(cp.map (· - 1)).getD 7:=by cases cp<;>simp at hcp ⊢ <;> omega
 have q2:2≤(cp.map (· - 1)).getD 2:=by cases cp<;>simp at hcp ⊢ <;> omega
 have p6:(2:Int) ≤ ↑t.length+1+1+1+1+1+1+1:=by omega
 have p7:((t.length:Int)+1+1+1+1+1+1+1).toNat - 2=t.length+5:=by omega
 have p8:List.take (t.length+5) (a8 b3 :: a8 b4 :: a8 b5 :: a8 b6 :: a8 b7 :: List.map a8 t)=a8 b3 :: a8 b4 :: a8 b5 :: a8 b6 :: a8 b7 :: List.map a8 t:=List.take_of_length_le (by simp)
 clear hcp1
 by_cases k1:b0=1
 ·subst k1
  have e:fv (1 :: b1 :: b2 :: b3 :: b4 :: b5 :: b6 :: b7 :: t)=⟨1,b7.toNat, { jx with h:=hanG [b1,b2,b3,b4,b5,b6]},0,0,0,0,false⟩:=rfl
  rw[e]
  have hg:=Kj (v := .isl 1 [a8 b1,a8 b2,a8 b3,a8 b4,a8 b5,a8 b6] (cp.map (· - 1))) (l:=[b1,b2,b3,b4,b5,b6]) (by rw[show[a8 b1,a8 b2,a8 b3,a8 b4,a8 b5,a8 b6]=by8 [b1,b2,b3,b4,b5,b6] from rfl];exact Sl.mkC (by simpa using q6)) rfl
  unfold Rcd.val jx
  simp only[wL]
  generalize hanG [b1,b2,b3,b4,b5,b6]=hh at *
  simp[af,ah,ad,ae,aa, *,jl,by8]
  omega
 ·by_cases k2:b0=2
  ·subst k2
   have e:fv (2 :: b1 :: b2 :: b3 :: b4 :: b5 :: b6 :: b7 :: t)=⟨2,0,opG (b3 :: b4 :: b5 :: b6 :: b7 :: t),val [b1,b2],0,0,0,false⟩:=rfl
   rw[e]
   have hr2:=Ee (l:=[b1,b2]) (x := .isl 1 [a8 b1,a8 b2] (cp.map (· - 1))) (by rw[show[a8 b1,a8 b2]=by8 [b1,b2] from rfl];exact Sl.mkC (by simpa using q2)) (by simp)
   have hsl:Sl 1 (by8 (b3 :: b4 :: b5 :: b6 :: b7 :: t)) (.isl 1 (a8 b3 :: a8 b4 :: a8 b5 :: a8 b6 :: a8 b7 :: List.map a8 t) (Option.map ((fun x=>x - 2) ∘ fun x=>x - 1) cp)):=by
    rw[show a8 b3 :: a8 b4 :: a8 b5 :: a8 b6 :: a8 b7 :: List.map a8 t=by8 (b3 :: b4 :: b5 :: b6 :: b7 :: t) from rfl]
    exact Sl.mkC (by cases cp<;>simp at hcp ⊢ <;> omega)
   have hget:=O3 hsl (by simp only[List.length_cons];omega)
   have hA:mE (b3 :: b4 :: b5 :: b6 :: b7 :: t) = .tup [.agg (opnV (opG (b3 :: b4 :: b5 :: b6 :: b7 :: t))++[runG (opG (b3 :: b4 :: b5 :: b6 :: b7 :: t)).l]),aI (if xU (b3 :: b4 :: b5 :: b6 :: b7 :: t) then uT (b3 :: b4 :: b5 :: b6 :: b7 :: t) else 0),aI (if xU (b3 :: b4 :: b5 :: b6 :: b7 :: t) then 0 else 8)]:=by
    unfold mE opG getZ
    split<;>rfl
   rw[hA]at hget
   unfold Rcd.val
   generalize opG (b3 :: b4 :: b5 :: b6 :: b7 :: t)=o at *
   simp only[opnV]at hget
   have hrr:=(mi o.l).r
   generalize runG o.l=ro at *
   generalize val [b1,b2]=cd at *
   clear hA hsl
   simp[af,ah,ad,ae,aa, *,jl,by8]
  ·by_cases k3:b0=3
   ·subst k3
    have e:fv (3 :: b1 :: b2 :: b3 :: b4 :: b5 :: b6 :: b7 :: t) = { nY [b1,b2,b3,b4,b5,b6,b7]with kind:=3}:=rfl
    rw[e]
    obtain⟨er,hg⟩:=O6 (c:=cp.map (· - 1)) (b0:=b1) (b1:=b2) (b2:=b3) (b3:=b4) (b4:=b5) (b5:=b6) (b6:=b7) q7
    obtain⟨f1,f2,f3⟩:=xS [b1,b2,b3,b4,b5,b6,b7]
    unfold Rcd.val
    simp only[f1,f2,f3]
    unfold jx
    simp only[wL]
    generalize nY [b1,b2,b3,b4,b5,b6,b7]=gg at *
    simp[af,ah,ad,ae,aa, *,jl,by8]
    omega
   ·have e:fv (b0 :: b1 :: b2 :: b3 :: b4 :: b5 :: b6 :: b7 :: t)=⟨b0,0,jx,0,0,0,0,false⟩:=by
     unfold fv
     simp[k1,k2,k3]
    rw[e]
    unfold Rcd.val jx
    simp only[wL]
    simp[af,ah,ad,ae,aa, *,jl,by8]
def catB(l:List (List UInt8)):List UInt8:=l.flatMap (·.drop 9)
def nM:Rcd:=⟨0,0,jx,0,0,0,0,false⟩
def badG:AV := .tup [nM.val aNil,(⟨0,0,0,0⟩:Hd).val,aI 8]
def wA(l:List (List UInt8))(h:Hd)(b:List UInt8):Bool:=decide (8≤b.length)&&(ej (fv b)&&kZ h.st h.nu 0 (recN (fv b))&&decide (dF (fv b) h.st h.nu=l))
def getE(l:List (List UInt8))(h:Hd)(b:List UInt8):AV:=if wA l h b then .tup [(fv b).val (runG (fv b).op.l),h.val,aI 0] else badG
def getR(l:List (List UInt8)):Option (Rcd × Hd):=if kD (l.headD [])&&wA l (hdOf (l.headD [])) (catB l) then some (fv (catB l),hdOf (l.headD [])) else none
def Kg(l:List (List UInt8)):AV:=match getR l with
 | some (r,h) => .tup [r.val (runG r.op.l),h.val,aI 0]
 | none=>badG
theorem Pz(b:List UInt8):(opG b).l.length≤64:=by
 unfold opG
 split
 ·rename_i h
  unfold xU at h
  simp only[Bool.and_eq_true,decide_eq_true_eq]at h
  have hp:=qM h.2.2
  rcases hp.2.2.2.2.2 with ⟨_,_,_,e,_⟩ | ⟨_,_,_,e⟩ | ⟨_,_,e,_⟩
  ·have:=hp.2.2.2.2.1;omega
  ·rw[e];simp
  ·rw[e];simp
 ·exact Nat.zero_le _
theorem uZ(b:List UInt8):(fv b).op.l.length≤64:=by
 unfold fv
 split
 ·exact Nat.zero_le _
 ·split
  ·exact Pz _
  ·split
   ·show(nY _).op.l.length≤64
    rw[(xS _).2.1];exact Nat.zero_le _
   ·exact Nat.zero_le _
theorem KI(l:List (List UInt8)):okB (l.map fun b=>(b,blkV b)):=fun p hp=>by
 obtain⟨b,_,rfl⟩:=List.mem_map.1 hp
 exact Sl.mk _ _
theorem KJ(l:List (List UInt8)):bV (l.map fun b=>(b,blkV b))=lS l:=by simp[bV,lS]
theorem BZ(l:List (List UInt8)):byB (l.map fun b=>(b,blkV b))=l:=by
 unfold byB
 rw[List.map_map]
 exact List.map_id' _
theorem xw(st nu of:Int) : ∀(l:List (List UInt8)) (i:Int),(oU st nu of i l).length=l.length
 | [],_=>rfl
 | _ :: l,i=>by simp only[oU,List.length_cons,xw st nu of l (i+1)]
theorem Jz : ∀(m:Nat)(s:List UInt8),(pcs m s).length≤m
 | 0,_=>Nat.le_refl _
 | m+1,s=>by
  rw[pcs]
  split
  ·simp
  ·have:=Jz m (s.drop 119);simp only[List.length_cons];omega
theorem P0{x0:AV}{l:List (List UInt8 × AV)}(hx:Sl 1 (bV l) x0)(hl:okB l)(hb:l.length<100000){B:List UInt8}(hB:B.length<100000)(h:Hd){x5:AV}{H:Heap}{r2 r3:Ref}
 (ho:Own 1 (by8 B) H x5) (hF:Fr H) (h2:H.get r2=some ⟨24,[nM.val aNil],false,false⟩) (h3:H.get r3=some ⟨4,[h.val],false,false⟩) (n12:r2≠r3) (n52:x5.at?≠some r2) (n53:x5.at?≠some r3) {Q:AV→Heap→Prop} (hQ : ∀H',Q (getE (byB l) h B) H') :
 GoL env Tryz.f117 0 hY [(29,aI l.length),(5,x5),(27,x0),(2,.ptr r2 0 0),(3,.ptr r3 0 0),(0,x0),(28,aI l.length)] H Q:=by
 have n21:=n12.symm
 have hxr:=hx.r
 have l2:(H.get r2).isSome=true:=by rw[h2];rfl
 have l3:(H.get r3).isSome=true:=by rw[h3];rfl
 unfold Hd.val at h3
 by_cases h8:8≤B.length
 ·have hne:by8 B≠[]:=by intro e;have:=congrArg List.length e;simp at this;rw[this]at h8;simp at h8
  obtain⟨q,rfl,hq⟩:=ho.osl hne
  have m2:q≠r2:=fun e=>n52 (by rw[e];rfl)
  have m3:q≠r3:=fun e=>n53 (by rw[e];rfl)
  have m2':=m2.symm
  have m3':=m3.symm
  clear n52 n53
  rw[nB]
  have lq:(H.get q).isSome=true:=by rw[hq];rfl
  have hp:=OS (b:=B) (x := .isl 1 (by8 B) none) (Sl.mk _ _) h8 hB
  have hput:=FN (fv B) (x:=runG (fv B).op.l) (mi _) (by have:=uZ B;omega) h.st h.nu
  have h8i : ¬(B.length:Int)<8:=by omega
  have hE:getE (byB l) h B=if (ej (fv B)&&kZ h.st h.nu 0 (recN (fv B))&&decide (dF (fv B) h.st h.nu=byB l)) then .tup [(fv B).val (runG (fv B).op.l),h.val,aI 0] else badG:=by
   unfold getE wA
   rw[decide_eq_true h8,Bool.true_and]
  rw[hE]at hQ
  have heq:=WQ (x := .isl 1 (lS (dF (fv B) h.st h.nu)) none) (y:=x0) (l:=(dF (fv B) h.st h.nu).map fun b=>(b,blkV b)) (m:=l) (by rw[KJ];exact Sl.mk _ _) hx (KI _) hl (by
   rw[List.length_map,dF,xw];have:=Jz 3 (recB (fv B));omega)
  rw[BZ]at heq
  clear hE
  have hrr:=(mi (fv B).op.l).r
  have hrc:=zT (fv B).op.l
  have hRR:getE (byB l) h B=getE (byB l) h B:=rfl
  clear hRR
  generalize runG (fv B).op.l=ro at *
  generalize fv B=r at *
  unfold Md at hput
  unfold badG nM Rcd.val Hd.val jx at hQ
  unfold Rcd.val nM jx at *
  cases c1:ej r with
  | false =>
   rw[c1,if_neg (by decide)]at hput
   rw[c1]at hQ
   simp only[Bool.false_and,Bool.false_eq_true,if_false]at hQ
   clear heq c1
   refine jf _ _ _ _ _ _ _ _ _ fun g=>?_
   rcases hrc with rfl | rfl
   ·simp[af,ah,ad,ae,aa, *,dN,Heap.aj]
   ·simp[af,ah,ad,ae,aa, *,dN,Heap.aj]
  | true =>
   cases c2:kZ h.st h.nu 0 (recN r) with
   | false =>
    rw[c1,c2,if_pos rfl,if_neg (by decide)]at hput
    rw[c1,c2]at hQ
    simp only[Bool.false_and,Bool.and_false,Bool.false_eq_true,if_false]at hQ
    clear heq c1 c2
    refine jf _ _ _ _ _ _ _ _ _ fun g=>?_
    rcases hrc with rfl | rfl
    ·simp[af,ah,ad,ae,aa, *,dN,Heap.aj]
    ·simp[af,ah,ad,ae,aa, *,dN,Heap.aj]
   | true =>
    rw[c1,c2,if_pos rfl,if_pos rfl]at hput
    rw[c1,c2,Bool.and_self,Bool.true_and]at hQ
    clear c1 c2
    generalize decide (dF r h.st h.nu=byB l)=db at *
    refine jf _ _ _ _ _ _ _ _ _ fun g=>?_
    rcases hrc with rfl | rfl
    ·cases db
     ·simp only[Bool.false_eq_true,if_false]at hQ
      simp[af,ah,ad,ae,aa, *,dN,Heap.aj]
     ·simp only[if_true]at hQ
      simp[af,ah,ad,ae,aa, *,dN,Heap.aj]
    ·cases db
     ·simp only[Bool.false_eq_true,if_false]at hQ
      simp[af,ah,ad,ae,aa, *,dN,Heap.aj]
     ·simp only[if_true]at hQ
      simp[af,ah,ad,ae,aa, *,dN,Heap.aj]
 ·have h8i:(B.length:Int)<8:=by omega
  have hlen5:=ho.len
  have hE:getE (byB l) h B=badG:=by
   unfold getE wA
   rw[decide_eq_false h8,Bool.false_and];rfl
  rw[hE]at hQ
  unfold badG nM Rcd.val Hd.val jx at hQ
  unfold Rcd.val nM jx at *
  clear hE
  rw[nB]at hlen5
  refine jf _ _ _ _ _ _ _ _ _ fun g=>?_
  simp[af,ah,ad,ae,aa, *,dN,Heap.aj]
theorem MO{x0:AV}{l:List (List UInt8 × AV)}(hx:Sl 1 (bV l) x0)(hl:okB l)(hb:l.length<100000)(hB:(catB (byB l)).length<100000)(h:Hd){r2 r3:Ref}(n12:r2≠r3){Q:AV→Heap→Prop}(hQ : ∀H',Q (getE (byB l) h (catB (byB l))) H') :
 ∀(s:List (List UInt8 × AV)) (k:Nat) (i:Int) (x5:AV) (H:Heap),l.drop k=s→k≤l.length→i=k→Own 1 (by8 (catB (byB (l.take k)))) H x5→Fr H→H.get r2=some ⟨24,[nM.val aNil],false,false⟩→H.get r3=some ⟨4,[h.val],false,false⟩→x5.at?≠some r2→x5.at?≠some r3 →
 GoL env Tryz.f117 0 hY [(29,aI i),(5,x5),(27,x0),(2,.ptr r2 0 0),(3,.ptr r3 0 0),(0,x0),(28,aI l.length)] H Q:=by
 intro s
 induction s with
 | nil =>
  rintro k i x5 H hs hk rfl ho hF h2 h3 n52 n53
  obtain rfl:=drop_nil hs hk
  rw[List.take_length]at ho
  exact P0 hx hl hb hB h ho hF h2 h3 n12 n52 n53 hQ
 | cons p s ih =>
  rintro k i x5 H hs hk rfl ho hF h2 h3 n52 n53
  obtain⟨hlt,hg,hs',hg'⟩:=drop_cons hs
  have hp:=hl p (hg ▸ List.getElem_mem _)
  have hpr:=hp.r
  have hcat:catB (byB (l.take (k+1)))=catB (byB (l.take k))++p.1.drop 9:=by
   unfold catB byB
   rw[List.take_add_one,hg']
   simp
  have hle:(catB (byB (l.take (k+1)))).length≤(catB (byB l)).length:=by
   have e:byB l=byB (l.take (k+1))++byB (l.drop (k+1)):=by unfold byB;rw[←List.map_append,List.take_append_drop]
   rw[e];unfold catB;rw[List.flatMap_append,List.length_append];omega
  rw[hcat]at hle
  have e3:=IntWalk.i64_in ((k:Int)+1) (by omega)
  have key : ∀(n:Nat)(v:AV),n=min p.1.length 9→(∃H0:Heap,v=v)→Sl 1 ((by8 p.1).drop n) v →∃s' H',cE env.P true H ⟨0,39,H.gen 0 39,0⟩ (some 76) (some 76) x5 v=some (s',H') ∧
   GoL env Tryz.f117 0 hY [(29,aI ((k:Int)+1)),(5,s'),(27,x0),(2,.ptr r2 0 0),(3,.ptr r3 0 0),(0,x0),(28,aI l.length)] H' Q:=by
   intro n v hn _ hv
   have hd:(by8 p.1).drop n=by8 (p.1.drop 9):=by
    rw[wV,hn]
    congr 1
    by_cases h9:p.1.length≤9
    ·rw[Nat.min_eq_left h9,List.drop_length,List.drop_of_length_le h9]
    ·rw[Nat.min_eq_right (by omega)]
   rw[hd]at hv
   have hap:=Gv (P:=env.P) (t:=76) (t':=76) (z:=1) (by':=1) (by kernel_rfl) (by kernel_rfl) H 0 39 ho (hv.els _) (by rw[nB,nB];rw[List.length_append]at hle;show(_+_) * 1≤140737488355328;omega) hF
   obtain⟨s',H',a1,a2,a3,a4⟩:=hap
   rw[HQ,←hcat]at a2
   exact⟨s',H',a1,ih (k+1) _ s' H' hs' (by omega) (by simp) a2 a3 (a4 _ _ h2 n52).1 (a4 _ _ h3 n53).1 (a4 _ _ h2 n52).2 (a4 _ _ h3 n53).2⟩
  clear ih hle hcat
  refine jf _ _ _ _ _ _ _ _ _ fun g=>?_
  have hsl:=GN (P:=env.P) (t:=76) (z:=1) (by kernel_rfl) H.get hp (n:=if 9<(p.1.length:Int) then 9 else (p.1.length:Int)) (by split<;>omega) (by rw[nB];split<;>omega)
  obtain⟨v,hv1,hv2⟩:=hsl
  obtain⟨s',H',a1,a2⟩:=key _ v (by split<;>omega) ⟨H,rfl⟩ hv2
  clear key
  simp[af,ah,ad,ae,aa, *,dN,hx.idx,bV]
theorem LB{x0:AV}{l:List (List UInt8 × AV)}(hx:Sl 1 (bV l) x0)(hl:okB l)(hb:l.length<100000)(hB:(catB (byB l)).length<100000):limf env 117 [x0]=some (Kg (byB l)):=by
 refine aH (fn:=Tryz.f117) (c:=pK) rfl (by kernel_rfl) (by kernel_rfl) (by kernel_rfl) (by kernel_rfl) ?_;refine AB _ _ _ fun g=>?_
 have hxr:=hx.r
 cases l with
 | nil =>
  unfold byB Kg getR badG nM Rcd.val Hd.val jx
  simp[af,ah,ad,ae,aa, *,mT,kD]
 | cons p l =>
  have hp:=hl p (List.mem_cons_self ..)
  have hh:=xl hp
  have hpr:=hp.r
  have h0 : ¬((l.length:Int)+1=0):=by omega
  have h1:(0:Int)<(l.length:Int)+1:=by omega
  have hd:(byB (p :: l)).headD []=p.1:=rfl
  unfold Kg getR
  rw[hd]
  cases hk:kD p.1 with
  | false =>
   rw[hk,if_neg (by decide)]at hh
   unfold badG nM Rcd.val Hd.val jx
   unfold Hd.val at hh
   simp[af,ah,ad,ae,aa, *,mT,hx.idx,bV]
  | true =>
   rw[hk,if_pos rfl]at hh
   rw[Bool.true_and]
   have he:(match (if wA (byB (p :: l)) (hdOf p.1) (catB (byB (p :: l)))=true then some (fv (catB (byB (p :: l))),hdOf p.1) else none)with | some (r,h)=>AV.tup [r.val (runG r.op.l),h.val,aI 0] | none=>badG)=getE (byB (p :: l)) (hdOf p.1) (catB (byB (p :: l))):=by
    unfold getE
    cases wA (byB (p :: l)) (hdOf p.1) (catB (byB (p :: l)))<;>rfl
   have go:=fun(H:Heap)=>MO hx hl hb hB (hdOf p.1) (r2:=⟨0,2,0,0⟩) (r3:=⟨0,3,0,0⟩) (by decide) (Q:=fun v H=>view H.get 8 v=some (getE (byB (p :: l)) (hdOf p.1) (catB (byB (p :: l))))) (by
    intro H'
    unfold getE
    generalize wA (byB (p :: l)) (hdOf p.1) (catB (byB (p :: l)))=eo
    generalize fv (catB (byB (p :: l)))=r
    have hrr:=(mi r.op.l).r
    unfold badG nM Rcd.val Hd.val jx
    cases eo<;>simp[wL,hrr]) (p :: l) 0 0 aNil H rfl (by omega) rfl (Ba _ _)
   rw[show(match (if wA (byB (p :: l)) (hdOf p.1) (catB (byB (p :: l)))=true then some (fv (catB (byB (p :: l))),hdOf p.1) else none)with | some (r,h)=>AV.tup [r.val (runG r.op.l),h.val,aI 0] | none=>badG)=getE (byB (p :: l)) (hdOf p.1) (catB (byB (p :: l))) from he]
   generalize getE (byB (p :: l)) (hdOf p.1) (catB (byB (p :: l)))=ans at *
   unfold nM Rcd.val jx at go
   generalize hdOf p.1=hd0 at *
   unfold Hd.val at *
   clear hl he hB hd hk
   rw[show(((p :: l).length:Nat):Int)=(l.length:Int)+1 from by simp]at go
   simp[af,ah,ad,ae,aa, *,mT,hx.idx,bV]
   exact go _ (by simp(maxDischargeDepth:=12) [aD,ar,Fr.nil,aP,af,ah,ad,ae,aF,aq,aa, *]) rfl rfl (by simp[AV.at?]) (by simp[AV.at?])
end Go.Proofs.YtiidajnodhkidaaGreat
