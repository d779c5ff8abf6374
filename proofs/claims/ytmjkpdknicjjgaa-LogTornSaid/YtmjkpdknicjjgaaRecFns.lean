/-
  Records: their bytes, and how many blocks they have. No statement of a seat is proved here.
-/
import Derived.Test.YtmjkpdknicjjgaaMOpSame
import Derived.Test.YtmjkpdknicjjgaaLgVc5
set_option linter.unusedVariables false
set_option linter.unusedSimpArgs false
set_option linter.unusedSectionVars false
set_option linter.unnecessarySimpa false
set_option maxRecDepth 100000
namespace Go.Proofs.Ytmjkpdknicjjgaa
open Go.Ab
attribute [local simp] cb bE bL bK keep thr cE bC bM eT eS bZ cD aW df List.take_of_length_le
def Bw (v:UInt8) (c:UInt32) (ok:Bool):Bool:=decide (v≤15)&&(ok||(decide (v=0)&&decide (c=0)))
def mayG (user:Int) (v:UInt8) (c:UInt32) (ok:Bool):Bool:=decide (0≤user)&&decide (user<8)&&Bw v c ok
@[simp] theorem RG (user:Int) (v:UInt8) (c:UInt32) (ok:Bool):limf env 77 [.agg [aI user,a8 v,a32 c,aB ok]]=some (aI (bad (mayG user v c ok))):=by
 refine aH (fn:=Try.f77) (c:=nx) rfl (by kernel_rfl) (by kernel_rfl) (by kernel_rfl) (by kernel_rfl) ?_;refine wW _ _ _ fun g=>?_
 cases ok
 ·simp [af,ah,ab,ad,aa, *,kH,eqA,eqFs]
  repeat' ((first | refine tg (fun h=>?_) (fun h=>?_) | refine nV (fun h=>?_) (fun h=>?_) | refine nW (fun h=>?_) (fun h=>?_) | refine nT (fun h=>?_) (fun h=>?_) | refine nU (fun h=>?_) (fun h=>?_))<;>(try simp only [decide_eq_true_eq,decide_eq_false_iff_not,Bool.not_eq_true',Bool.not_eq_false',Bool.and_eq_true,Bool.or_eq_true] at h)<;>(try simp [af,ah,ab,ad,aa, *,eqA,eqFs,mayG,Bw,bad]))
  all_goals (try grind)
 ·simp [af,ah,ab,ad,aa, *,kH,eqA,eqFs]
  repeat' ((first | refine tg (fun h=>?_) (fun h=>?_) | refine nV (fun h=>?_) (fun h=>?_) | refine nW (fun h=>?_) (fun h=>?_) | refine nT (fun h=>?_) (fun h=>?_) | refine nU (fun h=>?_) (fun h=>?_))<;>(try simp only [decide_eq_true_eq,decide_eq_false_iff_not,Bool.not_eq_true',Bool.not_eq_false',Bool.and_eq_true,Bool.or_eq_true] at h)<;>(try simp [af,ah,ab,ad,aa, *,eqA,eqFs,mayG,Bw,bad]))
  all_goals (try grind)
def kU (user:Int) (v:UInt8) (c:UInt32) (ok:Bool):List UInt8:=u8 user :: (if ok then 1 else 0) :: v :: be 4 c.toNat
@[simp] theorem Ug (user:Int) (v:UInt8) (c:UInt32) (ok:Bool):limf env 56 [.agg [aI user,a8 v,a32 c,aB ok]]=some (if mayG user v c ok then .tup [.isl 1 (by8 (kU user v c ok)) none,aI 0] else .tup [aNil,aI 8]):=by
 refine aH (fn:=Try.f56) (c:=pQ) rfl (by kernel_rfl) (by kernel_rfl) (by kernel_rfl) (by kernel_rfl) ?_;refine As _ _ _ fun g=>?_
 by_cases h:mayG user v c ok=true
 ·have h1:v≤15:=by simp [mayG,Bw] at h;exact h.2.1
  have hh:gP ⟨v,c,0⟩=true:=by simp [gP,h1]
  cases ok<;>simp [af,ah,ab,ad,aa, *,m8,bad,kU,dI,by8,be_4]
 ·simp at h
  simp [af,ah,ab,ad,aa, *,m8,bad]
structure Rcd where
 kind:UInt8
 user:Int
 op:Opn
 code:Int
 gu:Int
 gv:UInt8
 gc:UInt32
 gok:Bool
def mJ (a b:Rcd):Bool:=decide (a.kind=b.kind)&&(decide (a.user=b.user)&&(w7 a.op b.op&&(decide (a.code=b.code)&&(decide (a.gu=b.gu)&&(decide (a.gv=b.gv)&&decide (a.gc=b.gc)&&decide (a.gok=b.gok))))))
theorem Gr (k1 k2:UInt8) (u1 u2:Int) (a_1:UInt8) (a_2:UInt8) (a_3:UInt32) (a_4:UInt8) (a_5:Int) (a_6:UInt8) (a_7:UInt32) (a_8:UInt8) (a_9:Int) (a_10:Int) (a_11:UInt8) (a_12:UInt32) (a_13:UInt8) (a_14:Int) (a_15:UInt8) (a_16:UInt32) (b_1:UInt8) (b_2:UInt8) (b_3:UInt32) (b_4:UInt8) (b_5:Int) (b_6:UInt8) (b_7:UInt32) (b_8:UInt8) (b_9:Int) (b_10:Int) (b_11:UInt8) (b_12:UInt32) (b_13:UInt8) (b_14:Int) (b_15:UInt8) (b_16:UInt32) (c1 c2 g1 g2:Int) (v1 v2:UInt8) (w1 w2:UInt32) (o1 o2:Bool) {x y:AV} {l m:List Int} (hx:Sl 1 (rows l) x) (hy:Sl 1 (rows m) y) (hl:l.length<1000000000) :
 limf env 57 [.agg [a8 k1,aI u1,a8 a_1,a8 a_2,a32 a_3,a8 a_4,aI a_5,a8 a_6,a32 a_7,a8 a_8,aI a_9,aI a_10,a8 a_11,a32 a_12,a8 a_13,aI a_14,a8 a_15,a32 a_16,x,aI c1,aI g1,a8 v1,a32 w1,aB o1],.agg [a8 k2,aI u2,a8 b_1,a8 b_2,a32 b_3,a8 b_4,aI b_5,a8 b_6,a32 b_7,a8 b_8,aI b_9,aI b_10,a8 b_11,a32 b_12,a8 b_13,aI b_14,a8 b_15,a32 b_16,y,aI c2,aI g2,a8 v2,a32 w2,aB o2]] =
  some (aB (mJ ⟨k1,u1,(⟨a_1,⟨a_2,a_3,a_4⟩,a_5,⟨⟨⟨a_6,a_7,a_8⟩,a_9⟩,a_10⟩,⟨⟨a_11,a_12,a_13⟩,a_14⟩,⟨a_15,a_16⟩,l⟩:Opn),c1,g1,v1,w1,o1⟩ ⟨k2,u2,(⟨b_1,⟨b_2,b_3,b_4⟩,b_5,⟨⟨⟨b_6,b_7,b_8⟩,b_9⟩,b_10⟩,⟨⟨b_11,b_12,b_13⟩,b_14⟩,⟨b_15,b_16⟩,m⟩:Opn),c2,g2,v2,w2,o2⟩)):=by
 refine aH (fn:=Try.f57) (c:=np) rfl (by kernel_rfl) (by kernel_rfl) (by kernel_rfl) (by kernel_rfl) ?_;refine wS _ _ _ _ fun g=>?_
 have hq:=Jm a_1 a_2 a_3 a_4 a_5 a_6 a_7 a_8 a_9 a_10 a_11 a_12 a_13 a_14 a_15 a_16 b_1 b_2 b_3 b_4 b_5 b_6 b_7 b_8 b_9 b_10 b_11 b_12 b_13 b_14 b_15 b_16 hx hy hl
 have hr:=hx.r
 have hr2:=hy.r
 unfold mJ
 cases e1:decide (k1=k2) with
 | false=>simp [af,ah,ab,ad,aa, *,fR,eqA,eqFs]
 | true =>
 cases e2:decide (u1=u2) with
 | false=>simp [af,ah,ab,ad,aa, *,fR,eqA,eqFs]
 | true =>
 cases e3:w7 (⟨a_1,⟨a_2,a_3,a_4⟩,a_5,⟨⟨⟨a_6,a_7,a_8⟩,a_9⟩,a_10⟩,⟨⟨a_11,a_12,a_13⟩,a_14⟩,⟨a_15,a_16⟩,l⟩:Opn) (⟨b_1,⟨b_2,b_3,b_4⟩,b_5,⟨⟨⟨b_6,b_7,b_8⟩,b_9⟩,b_10⟩,⟨⟨b_11,b_12,b_13⟩,b_14⟩,⟨b_15,b_16⟩,m⟩:Opn) with
 | false=>simp [af,ah,ab,ad,aa, *,fR,eqA,eqFs]
 | true =>
 cases e4:decide (c1=c2) with
 | false=>simp [af,ah,ab,ad,aa, *,fR,eqA,eqFs]
 | true=>simp [af,ah,ab,ad,aa, *,fR,eqA,eqFs]
def iN:Opn:=⟨0,⟨0,0,0⟩,0,⟨⟨⟨0,0,0⟩,0⟩,0⟩,⟨⟨0,0,0⟩,0⟩,⟨0,0⟩,[]⟩
def Er (r:Rcd):Rcd:=if r.kind=1 then ⟨1,r.user, { iN with h:=r.op.h},0,0,0,0,false⟩ else if r.kind=2 then ⟨2,0,r.op,r.code,0,0,0,false⟩ else ⟨r.kind,0,iN,0,r.gu,r.gv,r.gc,r.gok⟩
def recB (r:Rcd):List UInt8:=r.kind :: (if r.kind=1 then dI r.op.h++[u8 r.user] else if r.kind=2 then [u8 (r.code / 256),u8 r.code]++fD r.op else kU r.gu r.gv r.gc r.gok)
def eK (r:Rcd):Bool:=if r.kind=1 then (decide (0≤r.user)&&decide (r.user≤255))&&(gP r.op.h&&mJ r (Er r)) else if r.kind=2 then (!decide (-1∈r.op.l)&&decide (0≤r.code)&&decide (r.code<65536))&&(opB r.op&&mJ r (Er r)) else if r.kind=3 then mayG r.gu r.gv r.gc r.gok&&mJ r (Er r) else false
def recZ (r:Rcd):AV:=if r.kind=1 then .isl 1 (by8 (r.kind :: ((if gP r.op.h then dI r.op.h else [])++[u8 r.user]))) none
 else if r.kind=2 then .isl 1 (by8 (r.kind :: ([u8 (r.code / 256),u8 r.code]++(if opB r.op then fD r.op else [])))) none
 else if r.kind=3 then (if mayG r.gu r.gv r.gc r.gok then .isl 1 (by8 (r.kind :: kU r.gu r.gv r.gc r.gok)) none else .isl 1 [a8 r.kind] (some 1)) else .isl 1 [a8 r.kind] (some 1)
theorem sT (k:UInt8) (u:Int) (a_1:UInt8) (a_2:UInt8) (a_3:UInt32) (a_4:UInt8) (a_5:Int) (a_6:UInt8) (a_7:UInt32) (a_8:UInt8) (a_9:Int) (a_10:Int) (a_11:UInt8) (a_12:UInt32) (a_13:UInt8) (a_14:Int) (a_15:UInt8) (a_16:UInt32) (c g1:Int) (v:UInt8) (w:UInt32) (o:Bool) {x:AV} {l:List Int} (hx:Sl 1 (rows l) x) (hl:l.length<2000000) :
 limf env 36 [.agg [a8 k,aI u,a8 a_1,a8 a_2,a32 a_3,a8 a_4,aI a_5,a8 a_6,a32 a_7,a8 a_8,aI a_9,aI a_10,a8 a_11,a32 a_12,a8 a_13,aI a_14,a8 a_15,a32 a_16,x,aI c,aI g1,a8 v,a32 w,aB o]]=some (.tup [recZ ⟨k,u,(⟨a_1,⟨a_2,a_3,a_4⟩,a_5,⟨⟨⟨a_6,a_7,a_8⟩,a_9⟩,a_10⟩,⟨⟨a_11,a_12,a_13⟩,a_14⟩,⟨a_15,a_16⟩,l⟩:Opn),c,g1,v,w,o⟩,aB (eK ⟨k,u,(⟨a_1,⟨a_2,a_3,a_4⟩,a_5,⟨⟨⟨a_6,a_7,a_8⟩,a_9⟩,a_10⟩,⟨⟨a_11,a_12,a_13⟩,a_14⟩,⟨a_15,a_16⟩,l⟩:Opn),c,g1,v,w,o⟩)]):=by
 refine aH (fn:=Try.f36) (c:=dU) rfl (by kernel_rfl) (by kernel_rfl) (by kernel_rfl) (by kernel_rfl) ?_;refine jG _ _ _ fun g=>?_
 have hr:=hx.r
 have hSm:=fun k' u' (b_1:UInt8) (b_2:UInt8) (b_3:UInt32) (b_4:UInt8) (b_5:Int) (b_6:UInt8) (b_7:UInt32) (b_8:UInt8) (b_9:Int) (b_10:Int) (b_11:UInt8) (b_12:UInt32) (b_13:UInt8) (b_14:Int) (b_15:UInt8) (b_16:UInt32) c' g' v' w' o' (y:AV) (m:List Int) (hy:Sl 1 (rows m) y)=>Gr k k' u u' a_1 a_2 a_3 a_4 a_5 a_6 a_7 a_8 a_9 a_10 a_11 a_12 a_13 a_14 a_15 a_16 b_1 b_2 b_3 b_4 b_5 b_6 b_7 b_8 b_9 b_10 b_11 b_12 b_13 b_14 b_15 b_16 c c' g1 g' v v' w w' o o' hx hy (by omega)
 by_cases k1:k=1
 ·subst k1
  have hs:=hSm 1 u 0 a_2 a_3 a_4 0 0 0 0 0 0 0 0 0 0 0 0 0 0 0 0 false aNil [] (.inl ⟨rfl,rfl⟩)
  have hw:eK ⟨1,u,(⟨a_1,⟨a_2,a_3,a_4⟩,a_5,⟨⟨⟨a_6,a_7,a_8⟩,a_9⟩,a_10⟩,⟨⟨a_11,a_12,a_13⟩,a_14⟩,⟨a_15,a_16⟩,l⟩:Opn),c,g1,v,w,o⟩=((decide (0≤u)&&decide (u≤255))&&(gP ⟨a_2,a_3,a_4⟩&&mJ ⟨1,u,(⟨a_1,⟨a_2,a_3,a_4⟩,a_5,⟨⟨⟨a_6,a_7,a_8⟩,a_9⟩,a_10⟩,⟨⟨a_11,a_12,a_13⟩,a_14⟩,⟨a_15,a_16⟩,l⟩:Opn),c,g1,v,w,o⟩ ⟨1,u,⟨0,⟨a_2,a_3,a_4⟩,0,⟨⟨⟨0,0,0⟩,0⟩,0⟩,⟨⟨0,0,0⟩,0⟩,⟨0,0⟩,[]⟩,0,0,0,0,false⟩)):=rfl
  have hz:recZ ⟨1,u,(⟨a_1,⟨a_2,a_3,a_4⟩,a_5,⟨⟨⟨a_6,a_7,a_8⟩,a_9⟩,a_10⟩,⟨⟨a_11,a_12,a_13⟩,a_14⟩,⟨a_15,a_16⟩,l⟩:Opn),c,g1,v,w,o⟩ = .isl 1 (by8 (1 :: ((if gP ⟨a_2,a_3,a_4⟩ then dI ⟨a_2,a_3,a_4⟩ else [])++[u8 u]))) none:=rfl
  rw [hw,hz]
  clear hSm hw hz
  generalize mJ ⟨1,u,(⟨a_1,⟨a_2,a_3,a_4⟩,a_5,⟨⟨⟨a_6,a_7,a_8⟩,a_9⟩,a_10⟩,⟨⟨a_11,a_12,a_13⟩,a_14⟩,⟨a_15,a_16⟩,l⟩:Opn),c,g1,v,w,o⟩ ⟨1,u,⟨0,⟨a_2,a_3,a_4⟩,0,⟨⟨⟨0,0,0⟩,0⟩,0⟩,⟨⟨0,0,0⟩,0⟩,⟨0,0⟩,[]⟩,0,0,0,0,false⟩=sm at *
  cases hh:gP ⟨a_2,a_3,a_4⟩<;>by_cases c0:0≤u<;>by_cases c2:u≤255
  all_goals simp [af,ah,ab,ad,aa, *,bm,dI,by8,be_4]
 ·by_cases k2:k=2
  ·subst k2
   have hs:=hSm 2 0 a_1 a_2 a_3 a_4 a_5 a_6 a_7 a_8 a_9 a_10 a_11 a_12 a_13 a_14 a_15 a_16 c 0 0 0 false x l hx
   have hw:eK ⟨2,u,(⟨a_1,⟨a_2,a_3,a_4⟩,a_5,⟨⟨⟨a_6,a_7,a_8⟩,a_9⟩,a_10⟩,⟨⟨a_11,a_12,a_13⟩,a_14⟩,⟨a_15,a_16⟩,l⟩:Opn),c,g1,v,w,o⟩=((!decide (-1∈l)&&decide (0≤c)&&decide (c<65536))&&(opB (⟨a_1,⟨a_2,a_3,a_4⟩,a_5,⟨⟨⟨a_6,a_7,a_8⟩,a_9⟩,a_10⟩,⟨⟨a_11,a_12,a_13⟩,a_14⟩,⟨a_15,a_16⟩,l⟩:Opn)&&mJ ⟨2,u,(⟨a_1,⟨a_2,a_3,a_4⟩,a_5,⟨⟨⟨a_6,a_7,a_8⟩,a_9⟩,a_10⟩,⟨⟨a_11,a_12,a_13⟩,a_14⟩,⟨a_15,a_16⟩,l⟩:Opn),c,g1,v,w,o⟩ ⟨2,0,(⟨a_1,⟨a_2,a_3,a_4⟩,a_5,⟨⟨⟨a_6,a_7,a_8⟩,a_9⟩,a_10⟩,⟨⟨a_11,a_12,a_13⟩,a_14⟩,⟨a_15,a_16⟩,l⟩:Opn),c,0,0,0,false⟩)):=rfl
   have hz:recZ ⟨2,u,(⟨a_1,⟨a_2,a_3,a_4⟩,a_5,⟨⟨⟨a_6,a_7,a_8⟩,a_9⟩,a_10⟩,⟨⟨a_11,a_12,a_13⟩,a_14⟩,⟨a_15,a_16⟩,l⟩:Opn),c,g1,v,w,o⟩ = .isl 1 (by8 (2 :: ([u8 (c / 256),u8 c]++(if opB (⟨a_1,⟨a_2,a_3,a_4⟩,a_5,⟨⟨⟨a_6,a_7,a_8⟩,a_9⟩,a_10⟩,⟨⟨a_11,a_12,a_13⟩,a_14⟩,⟨a_15,a_16⟩,l⟩:Opn) then fD (⟨a_1,⟨a_2,a_3,a_4⟩,a_5,⟨⟨⟨a_6,a_7,a_8⟩,a_9⟩,a_10⟩,⟨⟨a_11,a_12,a_13⟩,a_14⟩,⟨a_15,a_16⟩,l⟩:Opn) else [])))) none:=rfl
   have hP:=Gs a_1 a_2 a_3 a_4 a_5 a_6 a_7 a_8 a_9 a_10 a_11 a_12 a_13 a_14 a_15 a_16 hx (by omega)
   have hB:=Mp a_1 a_2 a_3 a_4 a_5 a_6 a_7 a_8 a_9 a_10 a_11 a_12 a_13 a_14 a_15 a_16 hx hl
   rw [hw,hz]
   unfold putA at hB
   have hlen:opB (⟨a_1,⟨a_2,a_3,a_4⟩,a_5,⟨⟨⟨a_6,a_7,a_8⟩,a_9⟩,a_10⟩,⟨⟨a_11,a_12,a_13⟩,a_14⟩,⟨a_15,a_16⟩,l⟩:Opn)=true→(fD (⟨a_1,⟨a_2,a_3,a_4⟩,a_5,⟨⟨⟨a_6,a_7,a_8⟩,a_9⟩,a_10⟩,⟨⟨a_11,a_12,a_13⟩,a_14⟩,⟨a_15,a_16⟩,l⟩:Opn)).length≤293∧24≤(fD (⟨a_1,⟨a_2,a_3,a_4⟩,a_5,⟨⟨⟨a_6,a_7,a_8⟩,a_9⟩,a_10⟩,⟨⟨a_11,a_12,a_13⟩,a_14⟩,⟨a_15,a_16⟩,l⟩:Opn)).length:=fun h=>by rw [rk h];exact ⟨(sa h).2,(sa h).1⟩
   clear hSm hw hz
   generalize mJ ⟨2,u,(⟨a_1,⟨a_2,a_3,a_4⟩,a_5,⟨⟨⟨a_6,a_7,a_8⟩,a_9⟩,a_10⟩,⟨⟨a_11,a_12,a_13⟩,a_14⟩,⟨a_15,a_16⟩,l⟩:Opn),c,g1,v,w,o⟩ ⟨2,0,(⟨a_1,⟨a_2,a_3,a_4⟩,a_5,⟨⟨⟨a_6,a_7,a_8⟩,a_9⟩,a_10⟩,⟨⟨a_11,a_12,a_13⟩,a_14⟩,⟨a_15,a_16⟩,l⟩:Opn),c,0,0,0,false⟩=sm at *
   generalize fD (⟨a_1,⟨a_2,a_3,a_4⟩,a_5,⟨⟨⟨a_6,a_7,a_8⟩,a_9⟩,a_10⟩,⟨⟨a_11,a_12,a_13⟩,a_14⟩,⟨a_15,a_16⟩,l⟩:Opn)=bs at *
   generalize decide (-1∈l)=pl at *
   cases hh:opB (⟨a_1,⟨a_2,a_3,a_4⟩,a_5,⟨⟨⟨a_6,a_7,a_8⟩,a_9⟩,a_10⟩,⟨⟨a_11,a_12,a_13⟩,a_14⟩,⟨a_15,a_16⟩,l⟩:Opn) with
   | false =>
    rw [hh,if_neg (by decide)] at hB
    clear hlen
    cases pl<;>by_cases c0:0≤c<;>by_cases c2:c<65536
    all_goals simp [af,ah,ab,ad,aa, *,bm,by8,cQ,cM]
   | true =>
    rw [hh,if_pos rfl] at hB
    have hl2:=hlen hh
    have f1:bs.length+1≤140737488355328∧bs.length+1+1≤140737488355328∧bs.length+1+1+1≤140737488355328:=by omega
    have f0:2+bs.length=bs.length+1+1:=by omega
    have f3:1+(bs.length+1+1)≤140737488355328∧1+(bs.length+1+1)=bs.length+1+1+1:=by omega
    have f2:2+bs.length≤140737488355328∧1+(2+bs.length)≤140737488355328∧2<2+bs.length∧0<bs.length:=by omega
    have hne:bs≠[]:=by rintro rfl;simp at f2
    clear hlen
    cases pl<;>by_cases c0:0≤c<;>by_cases c2:c<65536
    all_goals simp [af,ah,ab,ad,aa, *,bm,by8,cQ,cM]
  ·by_cases k3:k=3
   ·subst k3
    have hs:=hSm 3 0 0 0 0 0 0 0 0 0 0 0 0 0 0 0 0 0 0 g1 v w o aNil [] (.inl ⟨rfl,rfl⟩)
    have hw:eK ⟨3,u,(⟨a_1,⟨a_2,a_3,a_4⟩,a_5,⟨⟨⟨a_6,a_7,a_8⟩,a_9⟩,a_10⟩,⟨⟨a_11,a_12,a_13⟩,a_14⟩,⟨a_15,a_16⟩,l⟩:Opn),c,g1,v,w,o⟩=(mayG g1 v w o&&mJ ⟨3,u,(⟨a_1,⟨a_2,a_3,a_4⟩,a_5,⟨⟨⟨a_6,a_7,a_8⟩,a_9⟩,a_10⟩,⟨⟨a_11,a_12,a_13⟩,a_14⟩,⟨a_15,a_16⟩,l⟩:Opn),c,g1,v,w,o⟩ ⟨3,0,⟨0,⟨0,0,0⟩,0,⟨⟨⟨0,0,0⟩,0⟩,0⟩,⟨⟨0,0,0⟩,0⟩,⟨0,0⟩,[]⟩,0,g1,v,w,o⟩):=rfl
    have hz:recZ ⟨3,u,(⟨a_1,⟨a_2,a_3,a_4⟩,a_5,⟨⟨⟨a_6,a_7,a_8⟩,a_9⟩,a_10⟩,⟨⟨a_11,a_12,a_13⟩,a_14⟩,⟨a_15,a_16⟩,l⟩:Opn),c,g1,v,w,o⟩=if mayG g1 v w o then .isl 1 (by8 (3 :: kU g1 v w o)) none else .isl 1 [a8 3] (some 1):=rfl
    rw [hw,hz]
    clear hSm hw hz
    generalize mJ ⟨3,u,(⟨a_1,⟨a_2,a_3,a_4⟩,a_5,⟨⟨⟨a_6,a_7,a_8⟩,a_9⟩,a_10⟩,⟨⟨a_11,a_12,a_13⟩,a_14⟩,⟨a_15,a_16⟩,l⟩:Opn),c,g1,v,w,o⟩ ⟨3,0,⟨0,⟨0,0,0⟩,0,⟨⟨⟨0,0,0⟩,0⟩,0⟩,⟨⟨0,0,0⟩,0⟩,⟨0,0⟩,[]⟩,0,g1,v,w,o⟩=sm at *
    cases hh:mayG g1 v w o
    all_goals simp [af,ah,ab,ad,aa, *,bm,kU,by8,be_4]
   ·have hw:eK ⟨k,u,(⟨a_1,⟨a_2,a_3,a_4⟩,a_5,⟨⟨⟨a_6,a_7,a_8⟩,a_9⟩,a_10⟩,⟨⟨a_11,a_12,a_13⟩,a_14⟩,⟨a_15,a_16⟩,l⟩:Opn),c,g1,v,w,o⟩=false:=by unfold eK;rw [if_neg k1,if_neg k2,if_neg k3]
    have hz:recZ ⟨k,u,(⟨a_1,⟨a_2,a_3,a_4⟩,a_5,⟨⟨⟨a_6,a_7,a_8⟩,a_9⟩,a_10⟩,⟨⟨a_11,a_12,a_13⟩,a_14⟩,⟨a_15,a_16⟩,l⟩:Opn),c,g1,v,w,o⟩ = .isl 1 [a8 k] (some 1):=by unfold recZ;rw [if_neg k1,if_neg k2,if_neg k3]
    rw [hw,hz]
    clear hSm hw hz
    simp [af,ah,ab,ad,aa, *,bm]
end Go.Proofs.Ytmjkpdknicjjgaa
