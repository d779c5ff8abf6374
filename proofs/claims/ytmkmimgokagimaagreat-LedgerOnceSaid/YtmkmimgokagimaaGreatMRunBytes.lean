/-
  Rows of runes: what the functions answer. No statement of a seat is proved here.
-/
import Derived.Test.YtmkmimgokagimaaGreatMIdBytes
import Derived.Test.YtmkmimgokagimaaGreatLeVc3
set_option linter.unusedVariables false
set_option linter.unusedSimpArgs false
set_option linter.unusedSectionVars false
set_option linter.unnecessarySimpa false
set_option maxRecDepth 100000
namespace Go.Proofs.YtmkmimgokagimaaGreat
open Go.Ab
attribute [local simp] bn aV aF bj bh keep thr bD aX bc dx dw cN bE aD ct List.take_of_length_le
def Ff(n:Int):Bool:=(decide (0≤n)&&decide (n<55296))||(decide (57343<n)&&decide (n≤1114111))
@[simp] theorem Sp(n:Int):limf env 216 [.v (.int .i32 n)]=some (aB (Ff n)):=by
 refine az (fn:=Tryz.f216) (c:=jm) rfl (by kernel_rfl) (by kernel_rfl) (by kernel_rfl) (by kernel_rfl) ?_;refine m9 _ _ _ fun g=>?_
 simp[af,ah,ad,ae,ab, *,jn,Ff]
 repeat' ((first | refine mM (fun h=>?_) (fun h=>?_) | refine kD (fun h=>?_) (fun h=>?_) | refine kE (fun h=>?_) (fun h=>?_) | refine kB (fun h=>?_) (fun h=>?_) | refine kC (fun h=>?_) (fun h=>?_))<;>(try simp only[decide_eq_true_eq,decide_eq_false_iff_not,Bool.not_eq_true',Bool.not_eq_false',Bool.and_eq_true,Bool.or_eq_true]at h)<;>(try simp[af,ah,ad,ae,ab, *]))
 all_goals (try grind)
@[simp] theorem Sm(n:Int):limf env 215 [.v (.int .i32 n)]=some (aB (!rp n)):=by
 refine az (fn:=Tryz.f215) (c:=o7) rfl (by kernel_rfl) (by kernel_rfl) (by kernel_rfl) (by kernel_rfl) ?_;refine uB _ _ _ fun g=>?_
 by_cases h:n = -1
 ·subst h;simp[af,ah,ad,ae,ab, *,lW,rp]
 ·simp[af,ah,ad,ae,ab, *,lW,rp,Ff]
def sC:List Int→Nat→Int
 | [],_ => -1
 | n :: l,k=>if rp n then sC l (k+1) else k
theorem EG(l:List Int) : ∀k:Nat,(0≤sC l k↔l.all rp=false):=by
 induction l with
 | nil=>intro k;simp[sC]
 | cons n l ih =>
  intro k
  unfold sC
  cases h:rp n with
  | true=>rw[if_pos rfl,ih,List.all_cons,h,Bool.true_and]
  | false=>simp[h]
theorem DZ{x0:AV}{Q:AV→Heap→Prop}{l:List Int}(hx:Sl 1 (rows l) x0)(hl:l.length<4611686018427387904) : ∀(s:List Int)(k:Nat)(i:Int)(H:Heap),l.drop k=s→k≤l.length→i=k →
 (∀y H',y=aI (sC s k)→Q y H') →
 GoL env Tryz.f229 0 cC [(8,aI i),(0,x0),(1,.fn (.func 215) [] []),(7,aI l.length)] H Q:=by
 intro s
 induction s with
 | nil =>
  rintro k i H hs hk rfl hQ
  obtain rfl:=drop_nil hs hk
  refine fe _ _ _ _ _ _ fun g=>?_
  simp[af,ah,ad,ae,ab, *,cD]
  all_goals exact hQ _ _ rfl
 | cons b s ih =>
  rintro k i H hs hk rfl hQ
  obtain⟨hlt,hg,hs',hg'⟩:=drop_cons hs
  refine fe _ _ _ _ _ _ fun g=>?_
  have e3:=IntWalk.i64_in ((k:Int)+1) (by omega)
  cases hb:rp b with
  | true =>
   simp[af,ah,ad,ae,ab, *,cD,hx.idx,rows,aR]
   exact ih (k+1) _ _ hs' (by omega) (by simp) (fun y H' e=>hQ y H' (by simp[e,sC,hb]))
  | false =>
   simp[af,ah,ad,ae,ab, *,cD,hx.idx,rows,aR]
   exact hQ _ _ (by simp[sC,hb])
theorem OS:qBin env.P .eql 36 (.tmp 3) (.const (.slice none 0 0)) (some (.v (.slice none 0 0))) (some (.v (.slice none 0 0)))=some (aB true,[]):=by kernel_rfl
section
variable{x:AV}{l:List Int}(hx:Sl 1 (rows l) x)(hl:l.length<4611686018427387904)
include hx hl
theorem Ec:limf env 229 [x,.fn (.func 215) [] []]=some (aI (sC l 0)):=by
 refine az (fn:=Tryz.f229) (c:=dF) rfl (by kernel_rfl) (by kernel_rfl) (by kernel_rfl) (by kernel_rfl) ?_;refine jV _ _ _ _ fun g=>?_
 have h:=hx.len
 simp[af,ah,ad,ae,ab, *,fM]
 exact DZ hx hl l 0 _ _ rfl (by omega) rfl (fun y H' e=>by simp[e])
theorem Is:limf env 217 [x,.fn (.func 215) [] []]=some (aB (!l.all rp)):=by
 refine az (fn:=Tryz.f217) (c:=eZ) rfl (by kernel_rfl) (by kernel_rfl) (by kernel_rfl) (by kernel_rfl) ?_;refine ja _ _ _ _ fun g=>?_
 have h:=Ec hx hl
 have e:decide (0≤sC l 0) = !l.all rp:=by
  have:=EG l 0
  cases h:l.all rp<;>simp[h]at this ⊢ <;> omega
 simp[af,ah,ad,ae,ab, *,fa,hx.r]
theorem vB:limf env 187 [x]=some (aI (rowE l)):=by
 refine az (fn:=Tryz.f187) (c:=qR) rfl (by kernel_rfl) (by kernel_rfl) (by kernel_rfl) (by kernel_rfl) ?_;refine xc _ _ _ fun g=>?_
 have h:=Is hx hl
 have h2:=hx.len
 by_cases h64:64<l.length
 ·have:(64:Int)<l.length:=by omega
  simp[af,ah,ad,ae,ab, *,nz,rowE,hx.r]
 ·have : ¬(64:Int)<l.length:=by omega
  cases hb:l.all rp<;>simp[af,ah,ad,ae,ab, *,nz,rowE,hx.r]
theorem AF(hul:l.length * 4≤140737488355328):limf env 173 [x]=some (m4 x):=by
 refine az (fn:=Tryz.f173) (c:=gI) rfl (by kernel_rfl) (by kernel_rfl) (by kernel_rfl) (by kernel_rfl) ?_;refine lF _ _ _ fun g=>?_
 rcases hx with ⟨rfl,h⟩ | ⟨c,rfl,hc⟩
 ·have hn:=OS
  simp[af,ah,ad,ae,ab, *,da]
 ·by_cases he:l=[]
  ·subst he
   simp[af,ah,ad,ae,ab, *,da,rows]
  ·have he':rows l≠[]:=by simpa using he
   have hp:0<l.length:=List.length_pos_iff.2 he
   rw[mF 1 c he']
   simp[af,ah,ad,ae,ab, *,da]
end
theorem ER{x0 x1:AV}{Q:AV→Heap→Prop}{l m:List Int}(hx:Sl 1 (rows l) x0)(hy:Sl 1 (rows m) x1)(hl:l.length<4611686018427387904)(hlm:m.length=l.length) : ∀(s t:List Int)(k:Nat)(i:Int)(H:Heap),l.drop k=s→m.drop k=t→k≤l.length→i=k →
 (∀y H',y=aB (decide (s=t))→Q y H') →
 GoL env Tryz.f226 0 cP [(13,aI i),(1,x1),(0,x0),(12,aI l.length)] H Q:=by
 intro s
 induction s with
 | nil =>
  rintro t k i H hs ht hk rfl hQ
  obtain rfl:=drop_nil hs hk
  rw[←hlm,List.drop_length]at ht
  subst ht
  refine fV _ _ _ _ _ _ fun g=>?_
  simp[af,ah,ad,ae,ab, *,cR]
  all_goals exact hQ _ _ rfl
 | cons b s ih =>
  rintro t k i H hs ht hk rfl hQ
  obtain⟨hlt,hg,hs',hg'⟩:=drop_cons hs
  cases t with
  | nil=>have:=congrArg List.length ht;simp at this;omega
  | cons c t =>
  obtain⟨hlt2,hg2,ht',hg2'⟩:=drop_cons ht
  refine fV _ _ _ _ _ _ fun g=>?_
  have e3:=IntWalk.i64_in ((k:Int)+1) (by omega)
  by_cases hb:b=c
  ·subst hb
   simp[af,ah,ad,ae,ab, *,cR,hx.idx,hy.idx,rows,aR]
   exact ih t (k+1) _ _ hs' ht' (by omega) (by simp) (fun y H' e=>hQ y H' (by simp[e]))
  ·simp[af,ah,ad,ae,ab, *,cR,hx.idx,hy.idx,rows,aR]
   all_goals exact hQ _ _ (by simp[hb])
section
variable{x y:AV}{l m:List Int}(hx:Sl 1 (rows l) x)(hy:Sl 1 (rows m) y)(hl:l.length<4611686018427387904)
include hx hy hl
theorem FG:limf env 226 [x,y]=some (aB (decide (l=m))):=by
 refine az (fn:=Tryz.f226) (c:=ek) rfl (by kernel_rfl) (by kernel_rfl) (by kernel_rfl) (by kernel_rfl) ?_;refine lE _ _ _ _ fun g=>?_
 have h1:=hx.len
 have h2:=hy.len
 by_cases h:m.length=l.length
 ·have h':(m.length:Int)=l.length:=by omega
  simp[af,ah,ad,ae,ab, *,eu]
  exact ER hx hy hl h l m 0 0 _ rfl rfl (by omega) rfl (fun y H' e=>by simp[e])
 ·have h' : ¬(l.length:Int)=m.length:=by omega
  have hne:l≠m:=fun e=>h (by rw[e])
  have h'' : ¬(m.length:Int)=l.length:=by omega
  simp[af,ah,ad,ae,ab, *,eu]
end
end Go.Proofs.YtmkmimgokagimaaGreat
namespace Go.Proofs.YtmkmimgokagimaaGreat
open Go.Ab
attribute [local simp] bn aV aF bj bh keep thr bD aX bc dx dw cN bE aD ct List.take_of_length_le
def eL(l:List Int):List UInt8:=l.flatMap fun n=>be 4 n
theorem qm(l:List Int):(eL l).length=4 * l.length:=by
 induction l with
 | nil=>rfl
 | cons n l ih=>show(be 4 n++eL l).length=_;rw[List.length_append,ih,KA,List.length_cons];omega
theorem FT{l:List Int}{x13:AV}(hx:Sl 1 (rows l) x13)(hl:l.length<100000)(hR : ∀n∈l, -2147483648≤n∧n≤2147483647){Q:AV→Heap→Prop} :
 ∀(s:List Int)(k:Nat)(i:Int)(acc:List Int)(x5:AV)(H:Heap),l.drop k=s→k≤l.length→i=k→acc.length=k→Fr H→C0 [32] 1 (by8 (eL acc)) H x5→(acc=[]→x5=aNil) →
 (∀y H',C0 [32] 1 (by8 (eL (acc++s))) H' y→(acc++s=[]→y=aNil)→Q (.tup [y,aI 0]) H') →
 GoL env Tryz.f210 0 lz [(15,aI i),(5,x5),(13,x13),(14,aI l.length)] H Q:=by
 intro s
 induction s with
 | nil =>
  rintro k i acc x5 H hs hk rfl ha hF hO hN hQ
  obtain rfl:=drop_nil hs hk
  refine qE _ _ _ _ _ _ fun g=>?_
  have hQ':=hQ x5 H (by simpa using hO) (by simpa using hN)
  clear hQ hO hN
  simp[af,ah,ad,ae,ab, *,lA,hx.len]
  all_goals exact hQ'
 | cons n s ih =>
  rintro k i acc x5 H hs hk rfl ha hF hO hN hQ
  obtain⟨hlt,hg,hs',hg'⟩:=drop_cons hs
  have hn:=hR n (by rw[←hg];exact List.getElem_mem _)
  have e3:=IntWalk.i64_in ((k:Int)+1) (by omega)
  refine qE _ _ _ _ _ _ fun g=>?_
  have hrd:dy (rows l) k 0 1 false=some (.v (.int .i32 n)):=by simp[rows,hg',aR]
  have q24:n.fdiv (2 ^ min 24 IntKind.i32.bits)=n / 16777216:=by rw[show(2:Int) ^ min 24 IntKind.i32.bits=16777216 from rfl];exact dL n 16777216
  have q16:n.fdiv (2 ^ min 16 IntKind.i32.bits)=n / 65536:=by rw[show(2:Int) ^ min 16 IntKind.i32.bits=65536 from rfl];exact dL n 65536
  have q8:n.fdiv (2 ^ min 8 IntKind.i32.bits)=n / 256:=by rw[show(2:Int) ^ min 8 IntKind.i32.bits=256 from rfl];exact dL n 256
  have hih:=fun x5' H'=>ih (k+1) ((k:Int)+1) (acc++[n]) x5' H' hs' (by omega) (by simp) (by simp;omega)
  have hQ' : ∀y H',C0 [32] 1 (by8 (eL ((acc++[n])++s))) H' y→((acc++[n])++s=[]→y=aNil)→Q (.tup [y,aI 0]) H':=fun y H' h hn=>hQ y H' (by simpa using h) (fun e=>by simp at e)
  have hbl:=qm acc
  have hb8:(by8 (eL acc)).length=4 * acc.length:=by rw[show(by8 (eL acc)).length=(eL acc).length from by simp,hbl]
  have hst : ∀(g m:Nat)(H':Heap),m=4 * acc.length+4→H'.get ⟨0,32,g,0⟩=some ⟨1,by8 (eL acc)++[a8 (u8 (n / 16777216)),a8 (u8 (n / 65536)),a8 (u8 (n / 256)),a8 (u8 n)],true,false⟩→C0 [32] 1 (by8 (eL (acc++[n]))) H' (.osl ⟨0,32,g,0⟩ 0 m none):=by
   intro g m H' hm h
   subst hm
   have e:by8 (eL (acc++[n]))=by8 (eL acc)++[a8 (u8 (n / 16777216)),a8 (u8 (n / 65536)),a8 (u8 (n / 256)),a8 (u8 n)]:=by simp[eL,be_4,by8]
   rw[e]
   exact .inr ⟨32,g,by simp,by rw[List.length_append,hb8];rfl,h⟩
  clear hQ hN ih
  rcases hO with ⟨rfl,hz⟩ | ⟨t,gg,ht,rfl,hr⟩
  ·have hz':acc=[]:=by
    have:=congrArg List.length hz
    rw[hb8]at this
    simp only[List.length_nil]at this
    exact List.eq_nil_of_length_eq_zero (by omega)
   subst hz'
   have hst':=hst (H.gen 0 32) 4
   clear hst
   simp[af,ah,ad,ae,ab, *,lA,hx.r,hx.idx,eU,dL]
   exact hih _ _ (by simp(maxDischargeDepth:=12) [Heap.an,aq,aj,Fr.nil,ax,af,ah,ad,ae,ao,ak,ab, *]) (hst' _ rfl (by simp[eL])) (fun e=>by simp at e) hQ'
  ·rw[List.mem_singleton]at ht
   subst ht
   have l6:(H.get ⟨0,32,gg,0⟩).isSome=true:=by rw[hr];rfl
   have f4:oQ 1 1 (by8 (eL acc)).length true none (some ⟨1,by8 (eL acc),true,false⟩) (some [a8 (u8 (n / 16777216)),a8 (u8 (n / 65536)),a8 (u8 (n / 256)),a8 (u8 n)]):=by
    rw[aX,hb8];refine⟨rfl,hb8.symm ▸ rfl,.inr ⟨?_,rfl⟩⟩;simp;omega
   have hst':=fun H'=>hst (H.gen 0 32) ((by8 (eL acc)).length+4) H' (by rw[hb8])
   clear hst ha hb8 hbl
   generalize by8 (eL acc)=bs at *
   simp[af,ah,ad,ae,ab, *,lA,hx.r,hx.idx,eU,dL]
   exact hih _ _ (by simp(maxDischargeDepth:=12) [Heap.an,aq,aj,Fr.nil,ax,af,ah,ad,ae,ao,ak,ab, *]) (hst' _ (by simp)) (fun e=>by simp at e) hQ'
theorem K6{l:List Int}{x:AV}(hx:Sl 1 (rows l) x)(hl:l.length<100000)(hR : ∀n∈l, -2147483648≤n∧n≤2147483647):limf env 210 [x]=some (if rowE l=0 then .tup [outI 1 (by8 (eL l)),aI 0] else .tup [aNil,aI (rowE l)]):=by
 refine az (fn:=Tryz.f210) (c:=pI) rfl (by kernel_rfl) (by kernel_rfl) (by kernel_rfl) (by kernel_rfl) ?_;refine Ao _ _ _ fun g=>?_
 have hc:=vB hx (by omega)
 have hn:=hx.len
 by_cases h:rowE l=0
 ·rw[if_pos h]
  rw[h]at hc
  have hloop:=fun H Q=>FT hx hl hR (H:=H) (Q:=Q) l 0 0 [] aNil rfl (by omega) rfl rfl
  have hfin : ∀y H',C0 [32] 1 (by8 (eL ([]++l))) H' y→([]++l=[]→y=aNil)→view H'.get 8 (.tup [y,aI 0])=some (.tup [outI 1 (by8 (eL l)),aI 0]):=by
   intro y H' ho hnil
   rw[List.nil_append]at ho hnil
   rcases ho with ⟨rfl,hz⟩ | ⟨t,gg,ht,rfl,hr⟩
   ·rw[hz];simp[outI]
   ·have hne:by8 (eL l)≠[]:=by
     intro e
     have h1:=congrArg List.length e
     have h2:=qm l
     have h3:(by8 (eL l)).length=(eL l).length:=by simp
     simp only[List.length_nil]at h1
     have:l=[]:=List.eq_nil_of_length_eq_zero (by omega)
     cases hnil this
    rw[Gk 1 hne]
    generalize by8 (eL l)=bs at *
    simp[hr]
  have run:=fun H hF=>hloop H (fun x H=>view H.get 8 x=some (.tup [outI 1 (by8 (eL l)),aI 0])) hF (.inl ⟨rfl,rfl⟩) (fun _=>rfl) hfin
  clear hloop hfin h
  generalize outI 1 (by8 (eL l))=yo at *
  simp[af,ah,ad,ae,ab, *,pX,hx.r]
  all_goals exact run _ (by simp(maxDischargeDepth:=12) [aq,aj,Fr.nil,ax,af,ah,ad,ae,ao,ak,ab, *])
 ·rw[if_neg h]
  simp[af,ah,ad,ae,ab, *,pX,hx.r]
end Go.Proofs.YtmkmimgokagimaaGreat
