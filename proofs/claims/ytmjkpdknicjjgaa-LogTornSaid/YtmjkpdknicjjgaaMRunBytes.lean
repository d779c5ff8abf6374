/-
  Rows of runes: what the functions answer. No statement of a seat is proved here.
-/
import Derived.Test.YtmjkpdknicjjgaaMIdsFns
import Derived.Test.YtmjkpdknicjjgaaIdBytes
import Derived.Test.YtmjkpdknicjjgaaLgVc3
set_option linter.unusedVariables false
set_option linter.unusedSimpArgs false
set_option linter.unusedSectionVars false
set_option linter.unnecessarySimpa false
set_option maxRecDepth 100000
namespace Go.Proofs.Ytmjkpdknicjjgaa
open Go.Ab
attribute [local simp] cb bE bL bK keep thr cE bC bM eT eS bZ cD aW df List.take_of_length_le
def FL (n:Int):Bool:=(decide (0≤n)&&decide (n<55296))||(decide (57343<n)&&decide (n≤1114111))
@[simp] theorem S9 (n:Int):limf env 108 [.v (.int .i32 n)]=some (aB (FL n)):=by
 refine aH (fn:=Try.f108) (c:=fP) rfl (by kernel_rfl) (by kernel_rfl) (by kernel_rfl) (by kernel_rfl) ?_;refine nf _ _ _ fun g=>?_
 simp [af,ah,ab,ad,aa, *,fQ,FL]
 repeat' ((first | refine tg (fun h=>?_) (fun h=>?_) | refine nV (fun h=>?_) (fun h=>?_) | refine nW (fun h=>?_) (fun h=>?_) | refine nT (fun h=>?_) (fun h=>?_) | refine nU (fun h=>?_) (fun h=>?_))<;>(try simp only [decide_eq_true_eq,decide_eq_false_iff_not,Bool.not_eq_true',Bool.not_eq_false',Bool.and_eq_true,Bool.or_eq_true] at h)<;>(try simp [af,ah,ab,ad,aa, *]))
 all_goals (try grind)
@[simp] theorem S5 (n:Int):limf env 107 [.v (.int .i32 n)]=some (aB (!rg n)):=by
 refine aH (fn:=Try.f107) (c:=lA) rfl (by kernel_rfl) (by kernel_rfl) (by kernel_rfl) (by kernel_rfl) ?_;refine tZ _ _ _ fun g=>?_
 by_cases h:n = -1
 ·subst h;simp [af,ah,ab,ad,aa, *,je,rg]
 ·simp [af,ah,ab,ad,aa, *,je,rg,FL]
def sC:List Int→Nat→Int
 | [],_ => -1
 | n :: l,k=>if rg n then sC l (k+1) else k
theorem E5 (l:List Int) : ∀k:Nat,(0≤sC l k↔l.all rg=false):=by
 induction l with
 | nil=>intro k;simp [sC]
 | cons n l ih =>
  intro k
  unfold sC
  cases h:rg n with
  | true=>rw [if_pos rfl,ih,List.all_cons,h,Bool.true_and]
  | false=>simp [h]
theorem Em {x0:AV} {Q:AV→Heap→Prop} {l:List Int} (hx:Sl 1 (rows l) x0) (hl:l.length<4611686018427387904) : ∀(s:List Int) (k:Nat) (i:Int) (H:Heap),l.drop k=s→k≤l.length→i=k →
 (∀y H',y=aI (sC s k)→Q y H') →
 GoL env Try.f112 0 bP [(8,aI i),(0,x0),(1,.fn (.func 107) [] []),(7,aI l.length)] H Q:=by
 intro s
 induction s with
 | nil =>
  rintro k i H hs hk rfl hQ
  obtain rfl:=drop_nil hs hk
  refine fg _ _ _ _ _ _ fun g=>?_
  simp [af,ah,ab,ad,aa, *,bQ]
  all_goals exact hQ _ _ rfl
 | cons b s ih =>
  rintro k i H hs hk rfl hQ
  obtain ⟨hlt,hg,hs',hg'⟩:=drop_cons hs
  refine fg _ _ _ _ _ _ fun g=>?_
  have e3:=IntWalk.i64_in ((k:Int)+1) (by omega)
  cases hb:rg b with
  | true =>
   simp [af,ah,ab,ad,aa, *,bQ,hx.idx,rows,aR]
   exact ih (k+1) _ _ hs' (by omega) (by simp) (fun y H' e=>hQ y H' (by simp [e,sC,hb]))
  | false =>
   simp [af,ah,ab,ad,aa, *,bQ,hx.idx,rows,aR]
   exact hQ _ _ (by simp [sC,hb])
section
variable {x:AV} {l:List Int} (hx:Sl 1 (rows l) x) (hl:l.length<4611686018427387904)
include hx hl
theorem EF:limf env 112 [x,.fn (.func 107) [] []]=some (aI (sC l 0)):=by
 refine aH (fn:=Try.f112) (c:=cT) rfl (by kernel_rfl) (by kernel_rfl) (by kernel_rfl) (by kernel_rfl) ?_;refine jE _ _ _ _ fun g=>?_
 have h:=hx.len
 simp [af,ah,ab,ad,aa, *,dV]
 exact Em hx hl l 0 _ _ rfl (by omega) rfl (fun y H' e=>by simp [e])
theorem Jt:limf env 109 [x,.fn (.func 107) [] []]=some (aB (!l.all rg)):=by
 refine aH (fn:=Try.f109) (c:=dy) rfl (by kernel_rfl) (by kernel_rfl) (by kernel_rfl) (by kernel_rfl) ?_;refine iQ _ _ _ _ fun g=>?_
 have h:=EF hx hl
 have e:decide (0≤sC l 0) = !l.all rg:=by
  have:=E5 l 0
  cases h:l.all rg<;>simp [h] at this ⊢ <;> omega
 simp [af,ah,ab,ad,aa, *,dA,hx.r]
theorem vl:limf env 89 [x]=some (aI (rowE l)):=by
 refine aH (fn:=Try.f89) (c:=nn) rfl (by kernel_rfl) (by kernel_rfl) (by kernel_rfl) (by kernel_rfl) ?_;refine wQ _ _ _ fun g=>?_
 have h:=Jt hx hl
 have h2:=hx.len
 by_cases h64:64<l.length
 ·have:(64:Int)<l.length:=by omega
  simp [af,ah,ab,ad,aa, *,kG,rowE,hx.r]
 ·have : ¬(64:Int)<l.length:=by omega
  cases hb:l.all rg<;>simp [af,ah,ab,ad,aa, *,kG,rowE,hx.r]
end
theorem Fg {x0 x1:AV} {Q:AV→Heap→Prop} {l m:List Int} (hx:Sl 1 (rows l) x0) (hy:Sl 1 (rows m) x1) (hl:l.length<4611686018427387904) (hlm:m.length=l.length) : ∀(s t:List Int) (k:Nat) (i:Int) (H:Heap),l.drop k=s→m.drop k=t→k≤l.length→i=k →
 (∀y H',y=aB (decide (s=t))→Q y H') →
 GoL env Try.f92 0 cl [(13,aI i),(1,x1),(0,x0),(12,aI l.length)] H Q:=by
 intro s
 induction s with
 | nil =>
  rintro t k i H hs ht hk rfl hQ
  obtain rfl:=drop_nil hs hk
  rw [←hlm,List.drop_length] at ht
  subst ht
  refine fU _ _ _ _ _ _ fun g=>?_
  simp [af,ah,ab,ad,aa, *,cr]
  all_goals exact hQ _ _ rfl
 | cons b s ih =>
  rintro t k i H hs ht hk rfl hQ
  obtain ⟨hlt,hg,hs',hg'⟩:=drop_cons hs
  cases t with
  | nil=>have:=congrArg List.length ht;simp at this;omega
  | cons c t =>
  obtain ⟨hlt2,hg2,ht',hg2'⟩:=drop_cons ht
  refine fU _ _ _ _ _ _ fun g=>?_
  have e3:=IntWalk.i64_in ((k:Int)+1) (by omega)
  by_cases hb:b=c
  ·subst hb
   simp [af,ah,ab,ad,aa, *,cr,hx.idx,hy.idx,rows,aR]
   exact ih t (k+1) _ _ hs' ht' (by omega) (by simp) (fun y H' e=>hQ y H' (by simp [e]))
  ·simp [af,ah,ab,ad,aa, *,cr,hx.idx,hy.idx,rows,aR]
   all_goals exact hQ _ _ (by simp [hb])
theorem Gd {x0 x1:AV} {Q:AV→Heap→Prop} {l m:List Int} (hx:Sl 1 (rows l) x0) (hy:Sl 1 (rows m) x1) (hl:l.length<4611686018427387904) (hlm:m.length=l.length) : ∀(s t:List Int) (k:Nat) (i:Int) (H:Heap),l.drop k=s→m.drop k=t→k≤l.length→i=k →
 (∀y H',y=aB (decide (s=t))→Q y H') →
 GoL env Try.f70 0 dx [(5,aI i),(1,x1),(0,x0)] H Q:=by
 intro s
 induction s with
 | nil =>
  rintro t k i H hs ht hk rfl hQ
  obtain rfl:=drop_nil hs hk
  rw [←hlm,List.drop_length] at ht
  subst ht
  refine iS _ _ _ _ _ fun g=>?_
  simp [af,ah,ab,ad,aa, *,dB,hx.len]
  all_goals exact hQ _ _ rfl
 | cons b s ih =>
  rintro t k i H hs ht hk rfl hQ
  obtain ⟨hlt,hg,hs',hg'⟩:=drop_cons hs
  cases t with
  | nil=>have:=congrArg List.length ht;simp at this;omega
  | cons c t =>
  obtain ⟨hlt2,hg2,ht',hg2'⟩:=drop_cons ht
  refine iS _ _ _ _ _ fun g=>?_
  have e3:=IntWalk.i64_in ((k:Int)+1) (by omega)
  by_cases hb:b=c
  ·subst hb
   simp [af,ah,ab,ad,aa, *,dB,hx.idx,hy.idx,hx.len,rows,aR]
   exact ih t (k+1) _ _ hs' ht' (by omega) (by simp) (fun y H' e=>hQ y H' (by simp [e]))
  ·simp [af,ah,ab,ad,aa, *,dB,hx.idx,hy.idx,hx.len,rows,aR]
   all_goals exact hQ _ _ (by simp [hb])
section
variable {x y:AV} {l m:List Int} (hx:Sl 1 (rows l) x) (hy:Sl 1 (rows m) y) (hl:l.length<4611686018427387904)
include hx hy hl
theorem Gq:limf env 92 [x,y]=some (aB (decide (l=m))):=by
 refine aH (fn:=Try.f92) (c:=dm) rfl (by kernel_rfl) (by kernel_rfl) (by kernel_rfl) (by kernel_rfl) ?_;refine kN _ _ _ _ fun g=>?_
 have h1:=hx.len
 have h2:=hy.len
 by_cases h:m.length=l.length
 ·have h':(m.length:Int)=l.length:=by omega
  simp [af,ah,ab,ad,aa, *,dp]
  exact Fg hx hy hl h l m 0 0 _ rfl rfl (by omega) rfl (fun y H' e=>by simp [e])
 ·have h' : ¬(l.length:Int)=m.length:=by omega
  have hne:l≠m:=fun e=>h (by rw [e])
  have h'' : ¬(m.length:Int)=l.length:=by omega
  simp [af,ah,ab,ad,aa, *,dp]
theorem Jk:limf env 70 [x,y]=some (aB (decide (l=m))):=by
 refine aH (fn:=Try.f70) (c:=eZ) rfl (by kernel_rfl) (by kernel_rfl) (by kernel_rfl) (by kernel_rfl) ?_;refine ot _ _ _ _ fun g=>?_
 have h1:=hx.len
 have h2:=hy.len
 by_cases h:m.length=l.length
 ·have h':(m.length:Int)=l.length:=by omega
  simp [af,ah,ab,ad,aa, *,fa]
  exact Gd hx hy hl h l m 0 0 _ rfl rfl (by omega) rfl (fun y H' e=>by simp [e])
 ·have h' : ¬(l.length:Int)=m.length:=by omega
  have hne:l≠m:=fun e=>h (by rw [e])
  have h'' : ¬(m.length:Int)=l.length:=by omega
  simp [af,ah,ab,ad,aa, *,fa]
end
end Go.Proofs.Ytmjkpdknicjjgaa
set_option linter.unusedVariables false
set_option linter.unusedSimpArgs false
set_option linter.unusedSectionVars false
set_option linter.unnecessarySimpa false
set_option maxRecDepth 100000
namespace Go.Proofs.Ytmjkpdknicjjgaa
open Go.Ab
attribute [local simp] cb bE bL bK keep thr cE bC bM eT eS bZ cD aW df List.take_of_length_le
def dh (l:List Int):List UInt8:=l.flatMap fun n=>be 4 n
theorem lZ (l:List Int):(dh l).length=4 * l.length:=by
 induction l with
 | nil=>rfl
 | cons n l ih=>show (be 4 n++dh l).length=_;rw [List.length_append,ih,yi,List.length_cons];omega
theorem Gz {l:List Int} {x13:AV} (hx:Sl 1 (rows l) x13) (hl:l.length<100000) (hR : ∀n∈l, -2147483648≤n∧n≤2147483647) {Q:AV→Heap→Prop} :
 ∀(s:List Int) (k:Nat) (i:Int) (acc:List Int) (x5:AV) (H:Heap),l.drop k=s→k≤l.length→i=k→acc.length=k→Fr H→qN [32] 1 (by8 (dh acc)) H x5→(acc=[]→x5=aNil) →
 (∀y H',qN [32] 1 (by8 (dh (acc++s))) H' y→(acc++s=[]→y=aNil)→Q (.tup [y,aI 0]) H') →
 GoL env Try.f75 0 iV [(15,aI i),(5,x5),(13,x13),(14,aI l.length)] H Q:=by
 intro s
 induction s with
 | nil =>
  rintro k i acc x5 H hs hk rfl ha hF hO hN hQ
  obtain rfl:=drop_nil hs hk
  refine qP _ _ _ _ _ _ fun g=>?_
  have hQ':=hQ x5 H (by simpa using hO) (by simpa using hN)
  clear hQ hO hN
  simp [af,ah,ab,ad,aa, *,ja,hx.len]
  all_goals exact hQ'
 | cons n s ih =>
  rintro k i acc x5 H hs hk rfl ha hF hO hN hQ
  obtain ⟨hlt,hg,hs',hg'⟩:=drop_cons hs
  have hn:=hR n (by rw [←hg];exact List.getElem_mem _)
  have e3:=IntWalk.i64_in ((k:Int)+1) (by omega)
  refine qP _ _ _ _ _ _ fun g=>?_
  have hrd:ej (rows l) k 0 1 false=some (.v (.int .i32 n)):=by simp [rows,hg',aR]
  have q24:n.fdiv (2 ^ min 24 IntKind.i32.bits)=n / 16777216:=by rw [show (2:Int) ^ min 24 IntKind.i32.bits=16777216 from rfl];exact cM n 16777216
  have q16:n.fdiv (2 ^ min 16 IntKind.i32.bits)=n / 65536:=by rw [show (2:Int) ^ min 16 IntKind.i32.bits=65536 from rfl];exact cM n 65536
  have q8:n.fdiv (2 ^ min 8 IntKind.i32.bits)=n / 256:=by rw [show (2:Int) ^ min 8 IntKind.i32.bits=256 from rfl];exact cM n 256
  have hih:=fun x5' H'=>ih (k+1) ((k:Int)+1) (acc++[n]) x5' H' hs' (by omega) (by simp) (by simp;omega)
  have hQ' : ∀y H',qN [32] 1 (by8 (dh ((acc++[n])++s))) H' y→((acc++[n])++s=[]→y=aNil)→Q (.tup [y,aI 0]) H':=fun y H' h hn=>hQ y H' (by simpa using h) (fun e=>by simp at e)
  have hbl:=lZ acc
  have hb8:(by8 (dh acc)).length=4 * acc.length:=by rw [show (by8 (dh acc)).length=(dh acc).length from by simp,hbl]
  have hst : ∀(g m:Nat) (H':Heap),m=4 * acc.length+4→H'.get ⟨0,32,g,0⟩=some ⟨1,by8 (dh acc)++[a8 (u8 (n / 16777216)),a8 (u8 (n / 65536)),a8 (u8 (n / 256)),a8 (u8 n)],true,false⟩→qN [32] 1 (by8 (dh (acc++[n]))) H' (.osl ⟨0,32,g,0⟩ 0 m none):=by
   intro g m H' hm h
   subst hm
   have e:by8 (dh (acc++[n]))=by8 (dh acc)++[a8 (u8 (n / 16777216)),a8 (u8 (n / 65536)),a8 (u8 (n / 256)),a8 (u8 n)]:=by simp [dh,be_4,by8]
   rw [e]
   exact .inr ⟨32,g,by simp,by rw [List.length_append,hb8];rfl,h⟩
  clear hQ hN ih
  rcases hO with ⟨rfl,hz⟩ | ⟨t,gg,ht,rfl,hr⟩
  ·have hz':acc=[]:=by
    have:=congrArg List.length hz
    rw [hb8] at this
    simp only [List.length_nil] at this
    exact List.eq_nil_of_length_eq_zero (by omega)
   subst hz'
   have hst':=hst (H.gen 0 32) 4
   clear hst
   simp [af,ah,ab,ad,aa, *,ja,hx.r,hx.idx,cQ,cM]
   exact hih _ _ (by simp (maxDischargeDepth:=12) [Heap.aj,ar,an,Fr.nil,aA,af,ah,ab,ad,au,ak,aa, *]) (hst' _ rfl (by simp [dh])) (fun e=>by simp at e) hQ'
  ·rw [List.mem_singleton] at ht
   subst ht
   have l6:(H.get ⟨0,32,gg,0⟩).isSome=true:=by rw [hr];rfl
   have f4:oS 1 1 (by8 (dh acc)).length true none (some ⟨1,by8 (dh acc),true,false⟩) (some [a8 (u8 (n / 16777216)),a8 (u8 (n / 65536)),a8 (u8 (n / 256)),a8 (u8 n)]):=by
    rw [bC,hb8];refine ⟨rfl,hb8.symm ▸ rfl,.inr ⟨?_,rfl⟩⟩;simp;omega
   have hst':=fun H'=>hst (H.gen 0 32) ((by8 (dh acc)).length+4) H' (by rw [hb8])
   clear hst ha hb8 hbl
   generalize by8 (dh acc)=bs at *
   simp [af,ah,ab,ad,aa, *,ja,hx.r,hx.idx,cQ,cM]
   exact hih _ _ (by simp (maxDischargeDepth:=12) [Heap.aj,ar,an,Fr.nil,aA,af,ah,ab,ad,au,ak,aa, *]) (hst' _ (by simp)) (fun e=>by simp at e) hQ'
theorem Mm {l:List Int} {x:AV} (hx:Sl 1 (rows l) x) (hl:l.length<100000) (hR : ∀n∈l, -2147483648≤n∧n≤2147483647):limf env 75 [x]=some (if rowE l=0 then .tup [outI 1 (by8 (dh l)),aI 0] else .tup [aNil,aI (rowE l)]):=by
 refine aH (fn:=Try.f75) (c:=mU) rfl (by kernel_rfl) (by kernel_rfl) (by kernel_rfl) (by kernel_rfl) ?_;refine An _ _ _ fun g=>?_
 have hc:=vl hx (by omega)
 have hn:=hx.len
 by_cases h:rowE l=0
 ·rw [if_pos h]
  rw [h] at hc
  have hloop:=fun H Q=>Gz hx hl hR (H:=H) (Q:=Q) l 0 0 [] aNil rfl (by omega) rfl rfl
  have hfin : ∀y H',qN [32] 1 (by8 (dh ([]++l))) H' y→([]++l=[]→y=aNil)→view H'.get 8 (.tup [y,aI 0])=some (.tup [outI 1 (by8 (dh l)),aI 0]):=by
   intro y H' ho hnil
   rw [List.nil_append] at ho hnil
   rcases ho with ⟨rfl,hz⟩ | ⟨t,gg,ht,rfl,hr⟩
   ·rw [hz];simp [outI]
   ·have hne:by8 (dh l)≠[]:=by
     intro e
     have h1:=congrArg List.length e
     have h2:=lZ l
     have h3:(by8 (dh l)).length=(dh l).length:=by simp
     simp only [List.length_nil] at h1
     have:l=[]:=List.eq_nil_of_length_eq_zero (by omega)
     cases hnil this
    rw [CA 1 hne]
    generalize by8 (dh l)=bs at *
    simp [hr]
  have run:=fun H hF=>hloop H (fun x H=>view H.get 8 x=some (.tup [outI 1 (by8 (dh l)),aI 0])) hF (.inl ⟨rfl,rfl⟩) (fun _=>rfl) hfin
  clear hloop hfin h
  generalize outI 1 (by8 (dh l))=yo at *
  simp [af,ah,ab,ad,aa, *,mZ,hx.r]
  all_goals exact run _ (by simp (maxDischargeDepth:=12) [ar,an,Fr.nil,aA,af,ah,ab,ad,au,ak,aa, *])
 ·rw [if_neg h]
  simp [af,ah,ab,ad,aa, *,mZ,hx.r]
end Go.Proofs.Ytmjkpdknicjjgaa
