/-
  Rows of runes: what the functions answer. No statement of a seat is proved here.
-/
import Derived.Test.YtmkmimgokagimaaGreatMIdBytes
import Derived.Test.YtmkmimgokagimaaGreatLeVc3
set_option linter.unusedVariables false
set_option linter.unusedSimpArgs false
set_option linter.unusedSectionVars false
set_option linter.unnecessarySimpa false
set_option maxRecDepth 100000
namespace Go.Proofs.YtmkmimgokagimaaGreat
open Go.Ab
attribute [local simp] bJ bw bt bG bF cL kN bX bx bD cR cQ cr bY bh ct List.take_of_length_le
def LB(n:Int):Bool:=(decide (0≤n)&&decide (n<55296))||(decide (57343<n)&&decide (n≤1114111))
@[simp] theorem acD(n:Int):bj env 216 [.v (.int .i32 n)]=some (aB (LB n)):=by
 refine aG (fn:=Tryz.f216) (c:=m3) rfl (by kernel_rfl) (by kernel_rfl) (by kernel_rfl) (by kernel_rfl) ?_;refine sQ _ _ _ fun g=>?_
 simp[ah,ai,ae,af,ab, *,m4,LB]
 repeat' ((first | refine mZ (fun h=>?_) (fun h=>?_) | refine lz (fun h=>?_) (fun h=>?_) | refine lA (fun h=>?_) (fun h=>?_) | refine lx (fun h=>?_) (fun h=>?_) | refine ly (fun h=>?_) (fun h=>?_))<;>(try simp only[decide_eq_true_eq,decide_eq_false_iff_not,Bool.not_eq_true',Bool.not_eq_false',Bool.and_eq_true,Bool.or_eq_true]at h)<;>(try simp[ah,ai,ae,af,ab, *]))
 all_goals (try grind)
@[simp] theorem acA(n:Int):bj env 215 [.v (.int .i32 n)]=some (aB (!rO n)):=by
 refine aG (fn:=Tryz.f215) (c:=vN) rfl (by kernel_rfl) (by kernel_rfl) (by kernel_rfl) (by kernel_rfl) ?_;refine Cd _ _ _ fun g=>?_
 by_cases h:n = -1
 ·subst h;simp[ah,ai,ae,af,ab, *,qi,rO]
 ·simp[ah,ai,ae,af,ab, *,qi,rO,LB]
def wC:List Int→Nat→Int
 | [],_ => -1
 | n :: l,k=>if rO n then wC l (k+1) else k
theorem Mo(l:List Int) : ∀k:Nat,(0≤wC l k↔l.all rO=false):=by
 induction l with
 | nil=>intro k;simp[wC]
 | cons n l ih =>
  intro k
  unfold wC
  cases h:rO n with
  | true=>rw[if_pos rfl,ih,List.all_cons,h,Bool.true_and]
  | false=>simp[h]
theorem Lv{x0:AV}{Q:AV→ad→Prop}{l:List Int}(hx:Sl 1 (rows l) x0)(hl:l.length<4611686018427387904) : ∀(s:List Int)(k:Nat)(i:Int)(H:ad),l.drop k=s→k≤l.length→i=k →
 (∀y H',y=aI (wC s k)→Q y H') →
 b7 env Tryz.f229 0 dS [(8,aI i),(0,x0),(1,.fn (.func 215) [] []),(7,aI l.length)] H Q:=by
 intro s
 induction s with
 | nil =>
  rintro k i H hs hk rfl hQ
  obtain rfl:=drop_nil hs hk
  refine iH _ _ _ _ _ _ fun g=>?_
  simp[ah,ai,ae,af,ab, *,dV]
  all_goals exact hQ _ _ rfl
 | cons b s ih =>
  rintro k i H hs hk rfl hQ
  obtain⟨hlt,hg,hs',hg'⟩:=drop_cons hs
  refine iH _ _ _ _ _ _ fun g=>?_
  have e3:=IntWalk.i64_in ((k:Int)+1) (by omega)
  cases hb:rO b with
  | true =>
   simp[ah,ai,ae,af,ab, *,dV,hx.idx,rows,aR]
   exact ih (k+1) _ _ hs' (by omega) (by simp) (fun y H' e=>hQ y H' (by simp[e,wC,hb]))
  | false =>
   simp[ah,ai,ae,af,ab, *,dV,hx.idx,rows,aR]
   exact hQ _ _ (by simp[wC,hb])
theorem Wl:aH env.P .eql 36 (.tmp 3) (.const (.slice none 0 0)) (some (.v (.slice none 0 0))) (some (.v (.slice none 0 0)))=some (aB true,[]):=by kernel_rfl
section
variable{x:AV}{l:List Int}(hx:Sl 1 (rows l) x)(hl:l.length<4611686018427387904)
include hx hl
theorem LR:bj env 229 [x,.fn (.func 215) [] []]=some (aI (wC l 0)):=by
 refine aG (fn:=Tryz.f229) (c:=fl) rfl (by kernel_rfl) (by kernel_rfl) (by kernel_rfl) (by kernel_rfl) ?_;refine oE _ _ _ _ fun g=>?_
 have h:=hx.len
 simp[ah,ai,ae,af,ab, *,jl]
 exact Lv hx hl l 0 _ _ rfl (by omega) rfl (fun y H' e=>by simp[e])
theorem Qw:bj env 217 [x,.fn (.func 215) [] []]=some (aB (!l.all rO)):=by
 refine aG (fn:=Tryz.f217) (c:=iw) rfl (by kernel_rfl) (by kernel_rfl) (by kernel_rfl) (by kernel_rfl) ?_;refine m6 _ _ _ _ fun g=>?_
 have h:=LR hx hl
 have e:decide (0≤wC l 0) = !l.all rO:=by
  have:=Mo l 0
  cases h:l.all rO<;>simp[h]at this ⊢ <;> omega
 simp[ah,ai,ae,af,ab, *,iz,hx.r]
theorem Cn:bj env 187 [x]=some (aI (GF l)):=by
 refine aG (fn:=Tryz.f187) (c:=yj) rfl (by kernel_rfl) (by kernel_rfl) (by kernel_rfl) (by kernel_rfl) ?_;refine Eu _ _ _ fun g=>?_
 have h:=Qw hx hl
 have h2:=hx.len
 by_cases h64:64<l.length
 ·have:(64:Int)<l.length:=by omega
  simp[ah,ai,ae,af,ab, *,sG,GF,hx.r]
 ·have : ¬(64:Int)<l.length:=by omega
  cases hb:l.all rO<;>simp[ah,ai,ae,af,ab, *,sG,GF,hx.r]
theorem Hr(hul:l.length * 4≤140737488355328):bj env 173 [x]=some (pj x):=by
 refine aG (fn:=Tryz.f173) (c:=kC) rfl (by kernel_rfl) (by kernel_rfl) (by kernel_rfl) (by kernel_rfl) ?_;refine pQ _ _ _ fun g=>?_
 rcases hx with ⟨rfl,h⟩ | ⟨c,rfl,hc⟩
 ·have hn:=Wl
  simp[ah,ai,ae,af,ab, *,eW]
 ·by_cases he:l=[]
  ·subst he
   simp[ah,ai,ae,af,ab, *,eW,rows]
  ·have he':rows l≠[]:=by simpa using he
   have hp:0<l.length:=List.length_pos_iff.2 he
   rw[p6 1 c he']
   simp[ah,ai,ae,af,ab, *,eW]
end
theorem MB{x0 x1:AV}{Q:AV→ad→Prop}{l m:List Int}(hx:Sl 1 (rows l) x0)(hy:Sl 1 (rows m) x1)(hl:l.length<4611686018427387904)(hlm:m.length=l.length) : ∀(s t:List Int)(k:Nat)(i:Int)(H:ad),l.drop k=s→m.drop k=t→k≤l.length→i=k →
 (∀y H',y=aB (decide (s=t))→Q y H') →
 b7 env Tryz.f226 0 eD [(13,aI i),(1,x1),(0,x0),(12,aI l.length)] H Q:=by
 intro s
 induction s with
 | nil =>
  rintro t k i H hs ht hk rfl hQ
  obtain rfl:=drop_nil hs hk
  rw[←hlm,List.drop_length]at ht
  subst ht
  refine ju _ _ _ _ _ _ fun g=>?_
  simp[ah,ai,ae,af,ab, *,eH]
  all_goals exact hQ _ _ rfl
 | cons b s ih =>
  rintro t k i H hs ht hk rfl hQ
  obtain⟨hlt,hg,hs',hg'⟩:=drop_cons hs
  cases t with
  | nil=>have:=congrArg List.length ht;simp at this;omega
  | cons c t =>
  obtain⟨hlt2,hg2,ht',hg2'⟩:=drop_cons ht
  refine ju _ _ _ _ _ _ fun g=>?_
  have e3:=IntWalk.i64_in ((k:Int)+1) (by omega)
  by_cases hb:b=c
  ·subst hb
   simp[ah,ai,ae,af,ab, *,eH,hx.idx,hy.idx,rows,aR]
   exact ih t (k+1) _ _ hs' ht' (by omega) (by simp) (fun y H' e=>hQ y H' (by simp[e]))
  ·simp[ah,ai,ae,af,ab, *,eH,hx.idx,hy.idx,rows,aR]
   all_goals exact hQ _ _ (by simp[hb])
theorem N5{x0 x1:AV}{Q:AV→ad→Prop}{l m:List Int}(hx:Sl 1 (rows l) x0)(hy:Sl 1 (rows m) x1)(hl:l.length<4611686018427387904)(hlm:m.length=l.length) : ∀(s t:List Int)(k:Nat)(i:Int)(H:ad),l.drop k=s→m.drop k=t→k≤l.length→i=k →
 (∀y H',y=aB (decide (s=t))→Q y H') →
 b7 env Tryz.f133 0 fV [(5,aI i),(1,x1),(0,x0)] H Q:=by
 intro s
 induction s with
 | nil =>
  rintro t k i H hs ht hk rfl hQ
  obtain rfl:=drop_nil hs hk
  rw[←hlm,List.drop_length]at ht
  subst ht
  refine mX _ _ _ _ _ fun g=>?_
  simp[ah,ai,ae,af,ab, *,fW,hx.len]
  all_goals exact hQ _ _ rfl
 | cons b s ih =>
  rintro t k i H hs ht hk rfl hQ
  obtain⟨hlt,hg,hs',hg'⟩:=drop_cons hs
  cases t with
  | nil=>have:=congrArg List.length ht;simp at this;omega
  | cons c t =>
  obtain⟨hlt2,hg2,ht',hg2'⟩:=drop_cons ht
  refine mX _ _ _ _ _ fun g=>?_
  have e3:=IntWalk.i64_in ((k:Int)+1) (by omega)
  by_cases hb:b=c
  ·subst hb
   simp[ah,ai,ae,af,ab, *,fW,hx.idx,hy.idx,hx.len,rows,aR]
   exact ih t (k+1) _ _ hs' ht' (by omega) (by simp) (fun y H' e=>hQ y H' (by simp[e]))
  ·simp[ah,ai,ae,af,ab, *,fW,hx.idx,hy.idx,hx.len,rows,aR]
   all_goals exact hQ _ _ (by simp[hb])
section
variable{x y:AV}{l m:List Int}(hx:Sl 1 (rows l) x)(hy:Sl 1 (rows m) y)(hl:l.length<4611686018427387904)
include hx hy hl
theorem Oe:bj env 226 [x,y]=some (aB (decide (l=m))):=by
 refine aG (fn:=Tryz.f226) (c:=gw) rfl (by kernel_rfl) (by kernel_rfl) (by kernel_rfl) (by kernel_rfl) ?_;refine pP _ _ _ _ fun g=>?_
 have h1:=hx.len
 have h2:=hy.len
 by_cases h:m.length=l.length
 ·have h':(m.length:Int)=l.length:=by omega
  simp[ah,ai,ae,af,ab, *,gy]
  exact MB hx hy hl h l m 0 0 _ rfl rfl (by omega) rfl (fun y H' e=>by simp[e])
 ·have h' : ¬(l.length:Int)=m.length:=by omega
  have hne:l≠m:=fun e=>h (by rw[e])
  have h'' : ¬(m.length:Int)=l.length:=by omega
  simp[ah,ai,ae,af,ab, *,gy]
theorem Qh:bj env 133 [x,y]=some (aB (decide (l=m))):=by
 refine aG (fn:=Tryz.f133) (c:=kE) rfl (by kernel_rfl) (by kernel_rfl) (by kernel_rfl) (by kernel_rfl) ?_;refine vd _ _ _ _ fun g=>?_
 have h1:=hx.len
 have h2:=hy.len
 by_cases h:m.length=l.length
 ·have h':(m.length:Int)=l.length:=by omega
  simp[ah,ai,ae,af,ab, *,kL]
  exact N5 hx hy hl h l m 0 0 _ rfl rfl (by omega) rfl (fun y H' e=>by simp[e])
 ·have h' : ¬(l.length:Int)=m.length:=by omega
  have hne:l≠m:=fun e=>h (by rw[e])
  have h'' : ¬(m.length:Int)=l.length:=by omega
  simp[ah,ai,ae,af,ab, *,kL]
end
end Go.Proofs.YtmkmimgokagimaaGreat
namespace Go.Proofs.YtmkmimgokagimaaGreat
open Go.Ab
attribute [local simp] bJ bw bt bG bF cL kN bX bx bD cR cQ cr bY bh ct List.take_of_length_le
def eY(l:List Int):List UInt8:=l.flatMap fun n=>be 4 n
theorem wj(l:List Int):(eY l).length=4 * l.length:=by
 induction l with
 | nil=>rfl
 | cons n l ih=>show(be 4 n++eY l).length=_;rw[List.length_append,ih,RS,List.length_cons];omega
theorem Oo{l:List Int}{x13:AV}(hx:Sl 1 (rows l) x13)(hl:l.length<100000)(hR : ∀n∈l, -2147483648≤n∧n≤2147483647){Q:AV→ad→Prop} :
 ∀(s:List Int)(k:Nat)(i:Int)(acc:List Int)(x5:AV)(H:ad),l.drop k=s→k≤l.length→i=k→acc.length=k→Fr H→Gf [32] 1 (iB (eY acc)) H x5→(acc=[]→x5=cp) →
 (∀y H',Gf [32] 1 (iB (eY (acc++s))) H' y→(acc++s=[]→y=cp)→Q (.tup [y,aI 0]) H') →
 b7 env Tryz.f210 0 pa [(15,aI i),(5,x5),(13,x13),(14,aI l.length)] H Q:=by
 intro s
 induction s with
 | nil =>
  rintro k i acc x5 H hs hk rfl ha hF hO hN hQ
  obtain rfl:=drop_nil hs hk
  refine xC _ _ _ _ _ _ fun g=>?_
  have hQ':=hQ x5 H (by simpa using hO) (by simpa using hN)
  clear hQ hO hN
  simp[ah,ai,ae,af,ab, *,px,hx.len]
  all_goals exact hQ'
 | cons n s ih =>
  rintro k i acc x5 H hs hk rfl ha hF hO hN hQ
  obtain⟨hlt,hg,hs',hg'⟩:=drop_cons hs
  have hn:=hR n (by rw[←hg];exact List.getElem_mem _)
  have e3:=IntWalk.i64_in ((k:Int)+1) (by omega)
  refine xC _ _ _ _ _ _ fun g=>?_
  have hrd:eQ (rows l) k 0 1 false=some (.v (.int .i32 n)):=by simp[rows,hg',aR]
  have q24:n.fdiv (2 ^ min 24 IntKind.i32.bits)=n / 16777216:=by rw[show(2:Int) ^ min 24 IntKind.i32.bits=16777216 from rfl];exact eX n 16777216
  have q16:n.fdiv (2 ^ min 16 IntKind.i32.bits)=n / 65536:=by rw[show(2:Int) ^ min 16 IntKind.i32.bits=65536 from rfl];exact eX n 65536
  have q8:n.fdiv (2 ^ min 8 IntKind.i32.bits)=n / 256:=by rw[show(2:Int) ^ min 8 IntKind.i32.bits=256 from rfl];exact eX n 256
  have hih:=fun x5' H'=>ih (k+1) ((k:Int)+1) (acc++[n]) x5' H' hs' (by omega) (by simp) (by simp;omega)
  have hQ' : ∀y H',Gf [32] 1 (iB (eY ((acc++[n])++s))) H' y→((acc++[n])++s=[]→y=cp)→Q (.tup [y,aI 0]) H':=fun y H' h hn=>hQ y H' (by simpa using h) (fun e=>by simp at e)
  have hbl:=wj acc
  have hb8:(iB (eY acc)).length=4 * acc.length:=by rw[show(iB (eY acc)).length=(eY acc).length from by simp,hbl]
  have hst : ∀(g m:Nat)(H':ad),m=4 * acc.length+4→H'.get ⟨0,32,g,0⟩=some ⟨1,iB (eY acc)++[a8 (u8 (n / 16777216)),a8 (u8 (n / 65536)),a8 (u8 (n / 256)),a8 (u8 n)],true,false⟩→Gf [32] 1 (iB (eY (acc++[n]))) H' (.cP ⟨0,32,g,0⟩ 0 m none):=by
   intro g m H' hm h
   subst hm
   have e:iB (eY (acc++[n]))=iB (eY acc)++[a8 (u8 (n / 16777216)),a8 (u8 (n / 65536)),a8 (u8 (n / 256)),a8 (u8 n)]:=by simp[eY,MQ,iB]
   rw[e]
   exact .inr ⟨32,g,by simp,by rw[List.length_append,hb8];rfl,h⟩
  clear hQ hN ih
  rcases hO with ⟨rfl,hz⟩ | ⟨t,gg,ht,rfl,hr⟩
  ·have hz':acc=[]:=by
    have:=congrArg List.length hz
    rw[hb8]at this
    simp only[List.length_nil]at this
    exact List.eq_nil_of_length_eq_zero (by omega)
   subst hz'
   have hst':=hst (H.gen 0 32) 4
   clear hst
   simp[ah,ai,ae,af,ab, *,px,hx.r,hx.idx,fB,eX]
   exact hih _ _ (by simp(maxDischargeDepth:=12) [ad.ao,aD,aq,Fr.nil,aJ,ah,ai,ae,af,aC,ar,ab, *]) (hst' _ rfl (by simp[eY])) (fun e=>by simp at e) hQ'
  ·rw[List.mem_singleton]at ht
   subst ht
   have l6:(H.get ⟨0,32,gg,0⟩).isSome=true:=by rw[hr];rfl
   have f4:pr 1 1 (iB (eY acc)).length true none (some ⟨1,iB (eY acc),true,false⟩) (some [a8 (u8 (n / 16777216)),a8 (u8 (n / 65536)),a8 (u8 (n / 256)),a8 (u8 n)]):=by
    rw[bx,hb8];refine⟨rfl,hb8.symm ▸ rfl,.inr ⟨?_,rfl⟩⟩;simp;omega
   have hst':=fun H'=>hst (H.gen 0 32) ((iB (eY acc)).length+4) H' (by rw[hb8])
   clear hst ha hb8 hbl
   generalize iB (eY acc)=bs at *
   simp[ah,ai,ae,af,ab, *,px,hx.r,hx.idx,fB,eX]
   exact hih _ _ (by simp(maxDischargeDepth:=12) [ad.ao,aD,aq,Fr.nil,aJ,ah,ai,ae,af,aC,ar,ab, *]) (hst' _ (by simp)) (fun e=>by simp at e) hQ'
theorem SR{l:List Int}{x:AV}(hx:Sl 1 (rows l) x)(hl:l.length<100000)(hR : ∀n∈l, -2147483648≤n∧n≤2147483647):bj env 210 [x]=some (if GF l=0 then .tup [OG 1 (iB (eY l)),aI 0] else .tup [cp,aI (GF l)]):=by
 refine aG (fn:=Tryz.f210) (c:=wD) rfl (by kernel_rfl) (by kernel_rfl) (by kernel_rfl) (by kernel_rfl) ?_;refine Ic _ _ _ fun g=>?_
 have hc:=Cn hx (by omega)
 have hn:=hx.len
 by_cases h:GF l=0
 ·rw[if_pos h]
  rw[h]at hc
  have hloop:=fun H Q=>Oo hx hl hR (H:=H) (Q:=Q) l 0 0 [] cp rfl (by omega) rfl rfl
  have hfin : ∀y H',Gf [32] 1 (iB (eY ([]++l))) H' y→([]++l=[]→y=cp)→view H'.get 8 (.tup [y,aI 0])=some (.tup [OG 1 (iB (eY l)),aI 0]):=by
   intro y H' ho hnil
   rw[List.nil_append]at ho hnil
   rcases ho with ⟨rfl,hz⟩ | ⟨t,gg,ht,rfl,hr⟩
   ·rw[hz];simp[OG]
   ·have hne:iB (eY l)≠[]:=by
     intro e
     have h1:=congrArg List.length e
     have h2:=wj l
     have h3:(iB (eY l)).length=(eY l).length:=by simp
     simp only[List.length_nil]at h1
     have:l=[]:=List.eq_nil_of_length_eq_zero (by omega)
     cases hnil this
    rw[Nl 1 hne]
    generalize iB (eY l)=bs at *
    simp[hr]
  have run:=fun H hF=>hloop H (fun x H=>view H.get 8 x=some (.tup [OG 1 (iB (eY l)),aI 0])) hF (.inl ⟨rfl,rfl⟩) (fun _=>rfl) hfin
  clear hloop hfin h
  generalize OG 1 (iB (eY l))=yo at *
  simp[ah,ai,ae,af,ab, *,wM,hx.r]
  all_goals exact run _ (by simp(maxDischargeDepth:=12) [aD,aq,Fr.nil,aJ,ah,ai,ae,af,aC,ar,ab, *])
 ·rw[if_neg h]
  simp[ah,ai,ae,af,ab, *,wM,hx.r]
end Go.Proofs.YtmkmimgokagimaaGreat
