/-
  Rows of runes: what the functions answer. No statement of a seat is proved here.
-/
import Derived.Test.YtmkmimgokagimaaGreatMIdBytes
import Derived.Test.YtmkmimgokagimaaGreatLeVc3
set_option linter.unusedVariables false
set_option linter.unusedSimpArgs false
set_option linter.unusedSectionVars false
set_option linter.unnecessarySimpa false
set_option maxRecDepth 100000
namespace Go.Proofs.YtmkmimgokagimaaGreat
open Go.Ab
attribute [local simp] bj aL aF bg bf keep thr bx aT bc da cZ cJ bD aD bM List.take_of_length_le
def Ig(n:Int):Bool:=(decide (0≤n)&&decide (n<55296))||(decide (57343<n)&&decide (n≤1114111))
@[simp] theorem Wf(n:Int):limf env 216 [.v (.int .i32 n)]=some (aB (Ig n)):=by
 refine aw (fn:=Tryz.f216) (c:=jO) rfl (by kernel_rfl) (by kernel_rfl) (by kernel_rfl) (by kernel_rfl) ?_;refine oe _ _ _ fun g=>?_
 simp[af,ah,ad,ae,ab, *,jP,Ig]
 repeat' ((first | refine nH (fun h=>?_) (fun h=>?_) | refine lu (fun h=>?_) (fun h=>?_) | refine lx (fun h=>?_) (fun h=>?_) | refine lg (fun h=>?_) (fun h=>?_) | refine lj (fun h=>?_) (fun h=>?_))<;>(try simp only[decide_eq_true_eq,decide_eq_false_iff_not,Bool.not_eq_true',Bool.not_eq_false',Bool.and_eq_true,Bool.or_eq_true]at h)<;>(try simp[af,ah,ad,ae,ab, *]))
 all_goals (try grind)
@[simp] theorem Wc(n:Int):limf env 215 [.v (.int .i32 n)]=some (aB (!tZ n)):=by
 refine aw (fn:=Tryz.f215) (c:=qO) rfl (by kernel_rfl) (by kernel_rfl) (by kernel_rfl) (by kernel_rfl) ?_;refine xO _ _ _ fun g=>?_
 by_cases h:n = -1
 ·subst h;simp[af,ah,ad,ae,ab, *,mO,tZ]
 ·simp[af,ah,ad,ae,ab, *,mO,tZ,Ig]
def vi:List Int→Nat→Int
 | [],_ => -1
 | n :: l,k=>if tZ n then vi l (k+1) else k
theorem Hr(l:List Int) : ∀k:Nat,(0≤vi l k↔l.all tZ=false):=by
 induction l with
 | nil=>intro k;simp[vi]
 | cons n l ih =>
  intro k
  unfold vi
  cases h:tZ n with
  | true=>rw[if_pos rfl,ih,List.all_cons,h,Bool.true_and]
  | false=>simp[h]
theorem GL{x0:AV}{Q:AV→Heap→Prop}{l:List Int}(hx:Sl 1 (rows l) x0)(hl:l.length<4611686018427387904) : ∀(s:List Int)(k:Nat)(i:Int)(H:Heap),l.drop k=s→k≤l.length→i=k →
 (∀y H',y=aI (vi s k)→Q y H') →
 GoL env Tryz.f229 0 cF [(8,aI i),(0,x0),(1,.fn (.func 215) [] []),(7,aI l.length)] H Q:=by
 intro s
 induction s with
 | nil =>
  rintro k i H hs hk rfl hQ
  obtain rfl:=drop_nil hs hk
  refine fk _ _ _ _ _ _ fun g=>?_
  simp[af,ah,ad,ae,ab, *,cG]
  all_goals exact hQ _ _ rfl
 | cons b s ih =>
  rintro k i H hs hk rfl hQ
  obtain⟨hlt,hg,hs',hg'⟩:=drop_cons hs
  refine fk _ _ _ _ _ _ fun g=>?_
  have e3:=IntWalk.i64_in ((k:Int)+1) (by omega)
  cases hb:tZ b with
  | true =>
   simp[af,ah,ad,ae,ab, *,cG,hx.idx,rows,aR]
   exact ih (k+1) _ _ hs' (by omega) (by simp) (fun y H' e=>hQ y H' (by simp[e,vi,hb]))
  | false =>
   simp[af,ah,ad,ae,ab, *,cG,hx.idx,rows,aR]
   exact hQ _ _ (by simp[vi,hb])
theorem Sp:qBin env.P .eql 36 (.tmp 3) (.const (.slice none 0 0)) (some (.v (.slice none 0 0))) (some (.v (.slice none 0 0)))=some (aB true,[]):=by kernel_rfl
section
variable{x:AV}{l:List Int}(hx:Sl 1 (rows l) x)(hl:l.length<4611686018427387904)
include hx hl
theorem GX:limf env 229 [x,.fn (.func 215) [] []]=some (aI (vi l 0)):=by
 refine aw (fn:=Tryz.f229) (c:=dG) rfl (by kernel_rfl) (by kernel_rfl) (by kernel_rfl) (by kernel_rfl) ?_;refine kK _ _ _ _ fun g=>?_
 have h:=hx.len
 simp[af,ah,ad,ae,ab, *,fT]
 exact GL hx hl l 0 _ _ rfl (by omega) rfl (fun y H' e=>by simp[e])
theorem Lo:limf env 217 [x,.fn (.func 215) [] []]=some (aB (!l.all tZ)):=by
 refine aw (fn:=Tryz.f217) (c:=fe) rfl (by kernel_rfl) (by kernel_rfl) (by kernel_rfl) (by kernel_rfl) ?_;refine jB _ _ _ _ fun g=>?_
 have h:=GX hx hl
 have e:decide (0≤vi l 0) = !l.all tZ:=by
  have:=Hr l 0
  cases h:l.all tZ<;>simp[h]at this ⊢ <;> omega
 simp[af,ah,ad,ae,ab, *,fg,hx.r]
theorem za:limf env 187 [x]=some (aI (rowE l)):=by
 refine aw (fn:=Tryz.f187) (c:=tA) rfl (by kernel_rfl) (by kernel_rfl) (by kernel_rfl) (by kernel_rfl) ?_;refine Az _ _ _ fun g=>?_
 have h:=Lo hx hl
 have h2:=hx.len
 by_cases h64:64<l.length
 ·have:(64:Int)<l.length:=by omega
  simp[af,ah,ad,ae,ab, *,oH,rowE,hx.r]
 ·have : ¬(64:Int)<l.length:=by omega
  cases hb:l.all tZ<;>simp[af,ah,ad,ae,ab, *,oH,rowE,hx.r]
theorem Ds(hul:l.length * 4≤140737488355328):limf env 173 [x]=some (nZ x):=by
 refine aw (fn:=Tryz.f173) (c:=gR) rfl (by kernel_rfl) (by kernel_rfl) (by kernel_rfl) (by kernel_rfl) ?_;refine mw _ _ _ fun g=>?_
 rcases hx with ⟨rfl,h⟩ | ⟨c,rfl,hc⟩
 ·have hn:=Sp
  simp[af,ah,ad,ae,ab, *,dn]
 ·by_cases he:l=[]
  ·subst he
   simp[af,ah,ad,ae,ab, *,dn,rows]
  ·have he':rows l≠[]:=by simpa using he
   have hp:0<l.length:=List.length_pos_iff.2 he
   rw[nw 1 c he']
   simp[af,ah,ad,ae,ab, *,dn]
end
theorem HE{x0 x1:AV}{Q:AV→Heap→Prop}{l m:List Int}(hx:Sl 1 (rows l) x0)(hy:Sl 1 (rows m) x1)(hl:l.length<4611686018427387904)(hlm:m.length=l.length) : ∀(s t:List Int)(k:Nat)(i:Int)(H:Heap),l.drop k=s→m.drop k=t→k≤l.length→i=k →
 (∀y H',y=aB (decide (s=t))→Q y H') →
 GoL env Tryz.f226 0 cT [(13,aI i),(1,x1),(0,x0),(12,aI l.length)] H Q:=by
 intro s
 induction s with
 | nil =>
  rintro t k i H hs ht hk rfl hQ
  obtain rfl:=drop_nil hs hk
  rw[←hlm,List.drop_length]at ht
  subst ht
  refine gf _ _ _ _ _ _ fun g=>?_
  simp[af,ah,ad,ae,ab, *,cV]
  all_goals exact hQ _ _ rfl
 | cons b s ih =>
  rintro t k i H hs ht hk rfl hQ
  obtain⟨hlt,hg,hs',hg'⟩:=drop_cons hs
  cases t with
  | nil=>have:=congrArg List.length ht;simp at this;omega
  | cons c t =>
  obtain⟨hlt2,hg2,ht',hg2'⟩:=drop_cons ht
  refine gf _ _ _ _ _ _ fun g=>?_
  have e3:=IntWalk.i64_in ((k:Int)+1) (by omega)
  by_cases hb:b=c
  ·subst hb
   simp[af,ah,ad,ae,ab, *,cV,hx.idx,hy.idx,rows,aR]
   exact ih t (k+1) _ _ hs' ht' (by omega) (by simp) (fun y H' e=>hQ y H' (by simp[e]))
  ·simp[af,ah,ad,ae,ab, *,cV,hx.idx,hy.idx,rows,aR]
   all_goals exact hQ _ _ (by simp[hb])
theorem IB{x0 x1:AV}{Q:AV→Heap→Prop}{l m:List Int}(hx:Sl 1 (rows l) x0)(hy:Sl 1 (rows m) x1)(hl:l.length<4611686018427387904)(hlm:m.length=l.length) : ∀(s t:List Int)(k:Nat)(i:Int)(H:Heap),l.drop k=s→m.drop k=t→k≤l.length→i=k →
 (∀y H',y=aB (decide (s=t))→Q y H') →
 GoL env Tryz.f133 0 eg [(5,aI i),(1,x1),(0,x0)] H Q:=by
 intro s
 induction s with
 | nil =>
  rintro t k i H hs ht hk rfl hQ
  obtain rfl:=drop_nil hs hk
  rw[←hlm,List.drop_length]at ht
  subst ht
  refine jD _ _ _ _ _ fun g=>?_
  simp[af,ah,ad,ae,ab, *,ei,hx.len]
  all_goals exact hQ _ _ rfl
 | cons b s ih =>
  rintro t k i H hs ht hk rfl hQ
  obtain⟨hlt,hg,hs',hg'⟩:=drop_cons hs
  cases t with
  | nil=>have:=congrArg List.length ht;simp at this;omega
  | cons c t =>
  obtain⟨hlt2,hg2,ht',hg2'⟩:=drop_cons ht
  refine jD _ _ _ _ _ fun g=>?_
  have e3:=IntWalk.i64_in ((k:Int)+1) (by omega)
  by_cases hb:b=c
  ·subst hb
   simp[af,ah,ad,ae,ab, *,ei,hx.idx,hy.idx,hx.len,rows,aR]
   exact ih t (k+1) _ _ hs' ht' (by omega) (by simp) (fun y H' e=>hQ y H' (by simp[e]))
  ·simp[af,ah,ad,ae,ab, *,ei,hx.idx,hy.idx,hx.len,rows,aR]
   all_goals exact hQ _ _ (by simp[hb])
section
variable{x y:AV}{l m:List Int}(hx:Sl 1 (rows l) x)(hy:Sl 1 (rows m) y)(hl:l.length<4611686018427387904)
include hx hy hl
theorem IM:limf env 226 [x,y]=some (aB (decide (l=m))):=by
 refine aw (fn:=Tryz.f226) (c:=ew) rfl (by kernel_rfl) (by kernel_rfl) (by kernel_rfl) (by kernel_rfl) ?_;refine mv _ _ _ _ fun g=>?_
 have h1:=hx.len
 have h2:=hy.len
 by_cases h:m.length=l.length
 ·have h':(m.length:Int)=l.length:=by omega
  simp[af,ah,ad,ae,ab, *,eD]
  exact HE hx hy hl h l m 0 0 _ rfl rfl (by omega) rfl (fun y H' e=>by simp[e])
 ·have h' : ¬(l.length:Int)=m.length:=by omega
  have hne:l≠m:=fun e=>h (by rw[e])
  have h'' : ¬(m.length:Int)=l.length:=by omega
  simp[af,ah,ad,ae,ab, *,eD]
theorem Lb:limf env 133 [x,y]=some (aB (decide (l=m))):=by
 refine aw (fn:=Tryz.f133) (c:=hJ) rfl (by kernel_rfl) (by kernel_rfl) (by kernel_rfl) (by kernel_rfl) ?_;refine p6 _ _ _ _ fun g=>?_
 have h1:=hx.len
 have h2:=hy.len
 by_cases h:m.length=l.length
 ·have h':(m.length:Int)=l.length:=by omega
  simp[af,ah,ad,ae,ab, *,hX]
  exact IB hx hy hl h l m 0 0 _ rfl rfl (by omega) rfl (fun y H' e=>by simp[e])
 ·have h' : ¬(l.length:Int)=m.length:=by omega
  have hne:l≠m:=fun e=>h (by rw[e])
  have h'' : ¬(m.length:Int)=l.length:=by omega
  simp[af,ah,ad,ae,ab, *,hX]
end
end Go.Proofs.YtmkmimgokagimaaGreat
namespace Go.Proofs.YtmkmimgokagimaaGreat
open Go.Ab
attribute [local simp] bj aL aF bg bf keep thr bx aT bc da cZ cJ bD aD bM List.take_of_length_le
def eP(l:List Int):List UInt8:=l.flatMap fun n=>be 4 n
theorem sN(l:List Int):(eP l).length=4 * l.length:=by
 induction l with
 | nil=>rfl
 | cons n l ih=>show(be 4 n++eP l).length=_;rw[List.length_append,ih,NR,List.length_cons];omega
theorem IY{l:List Int}{x13:AV}(hx:Sl 1 (rows l) x13)(hl:l.length<100000)(hR : ∀n∈l, -2147483648≤n∧n≤2147483647){Q:AV→Heap→Prop} :
 ∀(s:List Int)(k:Nat)(i:Int)(acc:List Int)(x5:AV)(H:Heap),l.drop k=s→k≤l.length→i=k→acc.length=k→Fr H→FI [32] 1 (by8 (eP acc)) H x5→(acc=[]→x5=aNil) →
 (∀y H',FI [32] 1 (by8 (eP (acc++s))) H' y→(acc++s=[]→y=aNil)→Q (.tup [y,aI 0]) H') →
 GoL env Tryz.f210 0 mj [(15,aI i),(5,x5),(13,x13),(14,aI l.length)] H Q:=by
 intro s
 induction s with
 | nil =>
  rintro k i acc x5 H hs hk rfl ha hF hO hN hQ
  obtain rfl:=drop_nil hs hk
  refine td _ _ _ _ _ _ fun g=>?_
  have hQ':=hQ x5 H (by simpa using hO) (by simpa using hN)
  clear hQ hO hN
  simp[af,ah,ad,ae,ab, *,mo,hx.len]
  all_goals exact hQ'
 | cons n s ih =>
  rintro k i acc x5 H hs hk rfl ha hF hO hN hQ
  obtain⟨hlt,hg,hs',hg'⟩:=drop_cons hs
  have hn:=hR n (by rw[←hg];exact List.getElem_mem _)
  have e3:=IntWalk.i64_in ((k:Int)+1) (by omega)
  refine td _ _ _ _ _ _ fun g=>?_
  have hrd:fD (rows l) k 0 1 false=some (.v (.int .i32 n)):=by simp[rows,hg',aR]
  have q24:n.fdiv (2 ^ min 24 IntKind.i32.bits)=n / 16777216:=by rw[show(2:Int) ^ min 24 IntKind.i32.bits=16777216 from rfl];exact dM n 16777216
  have q16:n.fdiv (2 ^ min 16 IntKind.i32.bits)=n / 65536:=by rw[show(2:Int) ^ min 16 IntKind.i32.bits=65536 from rfl];exact dM n 65536
  have q8:n.fdiv (2 ^ min 8 IntKind.i32.bits)=n / 256:=by rw[show(2:Int) ^ min 8 IntKind.i32.bits=256 from rfl];exact dM n 256
  have hih:=fun x5' H'=>ih (k+1) ((k:Int)+1) (acc++[n]) x5' H' hs' (by omega) (by simp) (by simp;omega)
  have hQ' : ∀y H',FI [32] 1 (by8 (eP ((acc++[n])++s))) H' y→((acc++[n])++s=[]→y=aNil)→Q (.tup [y,aI 0]) H':=fun y H' h hn=>hQ y H' (by simpa using h) (fun e=>by simp at e)
  have hbl:=sN acc
  have hb8:(by8 (eP acc)).length=4 * acc.length:=by rw[show(by8 (eP acc)).length=(eP acc).length from by simp,hbl]
  have hst : ∀(g m:Nat)(H':Heap),m=4 * acc.length+4→H'.get ⟨0,32,g,0⟩=some ⟨1,by8 (eP acc)++[a8 (u8 (n / 16777216)),a8 (u8 (n / 65536)),a8 (u8 (n / 256)),a8 (u8 n)],true,false⟩→FI [32] 1 (by8 (eP (acc++[n]))) H' (.osl ⟨0,32,g,0⟩ 0 m none):=by
   intro g m H' hm h
   subst hm
   have e:by8 (eP (acc++[n]))=by8 (eP acc)++[a8 (u8 (n / 16777216)),a8 (u8 (n / 65536)),a8 (u8 (n / 256)),a8 (u8 n)]:=by simp[eP,be_4,by8]
   rw[e]
   exact .inr ⟨32,g,by simp,by rw[List.length_append,hb8];rfl,h⟩
  clear hQ hN ih
  rcases hO with ⟨rfl,hz⟩ | ⟨t,gg,ht,rfl,hr⟩
  ·have hz':acc=[]:=by
    have:=congrArg List.length hz
    rw[hb8]at this
    simp only[List.length_nil]at this
    exact List.eq_nil_of_length_eq_zero (by omega)
   subst hz'
   have hst':=hst (H.gen 0 32) 4
   clear hst
   simp[af,ah,ad,ae,ab, *,mo,hx.r,hx.idx,eY,dM]
   exact hih _ _ (by simp(maxDischargeDepth:=12) [Heap.an,au,ak,Fr.nil,az,af,ah,ad,ae,ar,ao,ab, *]) (hst' _ rfl (by simp[eP])) (fun e=>by simp at e) hQ'
  ·rw[List.mem_singleton]at ht
   subst ht
   have l6:(H.get ⟨0,32,gg,0⟩).isSome=true:=by rw[hr];rfl
   have f4:oF 1 1 (by8 (eP acc)).length true none (some ⟨1,by8 (eP acc),true,false⟩) (some [a8 (u8 (n / 16777216)),a8 (u8 (n / 65536)),a8 (u8 (n / 256)),a8 (u8 n)]):=by
    rw[aT,hb8];refine⟨rfl,hb8.symm ▸ rfl,.inr ⟨?_,rfl⟩⟩;simp;omega
   have hst':=fun H'=>hst (H.gen 0 32) ((by8 (eP acc)).length+4) H' (by rw[hb8])
   clear hst ha hb8 hbl
   generalize by8 (eP acc)=bs at *
   simp[af,ah,ad,ae,ab, *,mo,hx.r,hx.idx,eY,dM]
   exact hih _ _ (by simp(maxDischargeDepth:=12) [Heap.an,au,ak,Fr.nil,az,af,ah,ad,ae,ar,ao,ab, *]) (hst' _ (by simp)) (fun e=>by simp at e) hQ'
theorem Oo{l:List Int}{x:AV}(hx:Sl 1 (rows l) x)(hl:l.length<100000)(hR : ∀n∈l, -2147483648≤n∧n≤2147483647):limf env 210 [x]=some (if rowE l=0 then .tup [outI 1 (by8 (eP l)),aI 0] else .tup [aNil,aI (rowE l)]):=by
 refine aw (fn:=Tryz.f210) (c:=rK) rfl (by kernel_rfl) (by kernel_rfl) (by kernel_rfl) (by kernel_rfl) ?_;refine Da _ _ _ fun g=>?_
 have hc:=za hx (by omega)
 have hn:=hx.len
 by_cases h:rowE l=0
 ·rw[if_pos h]
  rw[h]at hc
  have hloop:=fun H Q=>IY hx hl hR (H:=H) (Q:=Q) l 0 0 [] aNil rfl (by omega) rfl rfl
  have hfin : ∀y H',FI [32] 1 (by8 (eP ([]++l))) H' y→([]++l=[]→y=aNil)→view H'.get 8 (.tup [y,aI 0])=some (.tup [outI 1 (by8 (eP l)),aI 0]):=by
   intro y H' ho hnil
   rw[List.nil_append]at ho hnil
   rcases ho with ⟨rfl,hz⟩ | ⟨t,gg,ht,rfl,hr⟩
   ·rw[hz];simp[outI]
   ·have hne:by8 (eP l)≠[]:=by
     intro e
     have h1:=congrArg List.length e
     have h2:=sN l
     have h3:(by8 (eP l)).length=(eP l).length:=by simp
     simp only[List.length_nil]at h1
     have:l=[]:=List.eq_nil_of_length_eq_zero (by omega)
     cases hnil this
    rw[Jo 1 hne]
    generalize by8 (eP l)=bs at *
    simp[hr]
  have run:=fun H hF=>hloop H (fun x H=>view H.get 8 x=some (.tup [outI 1 (by8 (eP l)),aI 0])) hF (.inl ⟨rfl,rfl⟩) (fun _=>rfl) hfin
  clear hloop hfin h
  generalize outI 1 (by8 (eP l))=yo at *
  simp[af,ah,ad,ae,ab, *,sc,hx.r]
  all_goals exact run _ (by simp(maxDischargeDepth:=12) [au,ak,Fr.nil,az,af,ah,ad,ae,ar,ao,ab, *])
 ·rw[if_neg h]
  simp[af,ah,ad,ae,ab, *,sc,hx.r]
end Go.Proofs.YtmkmimgokagimaaGreat
