/-
  Labels, handles, ids, spans, runes: what the functions answer. No statement of a seat is proved here.
-/
import Derived.Test.YtmkmimgokagimaaGreatMLvVc3
set_option linter.unusedVariables false
set_option linter.unusedSimpArgs false
set_option linter.unusedSectionVars false
set_option linter.unnecessarySimpa false
set_option maxRecDepth 100000
set_option linter.defProp false
namespace Go.Proofs.YtmkmimgokagimaaGreat
open Go.Ab
section
attribute [local simp] aJ az au aG aF aX lZ aO aE aH bT bS bg aP an bA gj
@[simp] def Vj(a:UInt8)(b:UInt32):ax env 76 [.agg [a8 a,af b]]=some (aI (bad (decide (a<=15)))):=by
 refine ay rfl (by kernel_rfl) (AX _ _ _ λg=>?_);simp[ai, *,wg];repeat' ((first | apply ji<;>intro h | apply fY<;>intro h | apply fZ<;>intro h | apply fW<;>intro h | apply fX<;>intro h)<;>(try simp only[iQb,iQc,dI,kT,aT,fp]at h)<;>(try simp[ai, *]))
 all_goals (try grind [bad])
@[simp] def ah2(b:Bool):ax env 159 [aB b]=some (aI (bad b)):=by
 refine ay rfl (by kernel_rfl) (KR _ _ _ λg=>?_);cases b<;>simp[ai, *,Ef,bad]
@[simp] def XB(a:UInt8)(b:UInt32)(n:UInt8):ax env 91 [.agg [a8 a,af b,a8 n]]=some (aI (bad (mA ⟨a,b,n⟩))):=by
 refine ay rfl (by kernel_rfl) (CA _ _ _ λg=>?_);simp[ai, *,wh,mA];repeat' ((first | apply ji<;>intro h | apply fY<;>intro h | apply fZ<;>intro h | apply fW<;>intro h | apply fX<;>intro h)<;>(try simp only[iQb,iQc,dI,kT,aT,fp]at h)<;>(try simp[ai, *]))
@[simp] def afP(a:UInt8)(b:UInt32)(n:UInt8)(k:Int):ax env 182 [.agg [a8 a,af b,a8 n,aI k]]=some (aI (bad (E3 ⟨⟨a,b,n⟩,k⟩))):=by
 refine ay rfl (by kernel_rfl) (KS _ _ _ λg=>?_);simp[ai, *,Eg,E3];repeat' ((first | apply ji<;>intro h | apply fY<;>intro h | apply fZ<;>intro h | apply fW<;>intro h | apply fX<;>intro h)<;>(try simp only[iQb,iQc,dI,kT,aT,fp]at h)<;>(try simp[ai, *]))
@[simp] def Z5(a:UInt8)(b:UInt32)(n:UInt8)(k m:Int):ax env 135 [.agg [a8 a,af b,a8 n,aI k,aI m]]=some (aI (bad (eN ⟨⟨⟨a,b,n⟩,k⟩,m⟩))):=by
 refine ay rfl (by kernel_rfl) (EE _ _ _ λg=>?_);cases c:E3 ⟨⟨a,b,n⟩,k⟩ with
 | false=>simp[ai, *,mY,eN]
 | true=>
  have d:=Kh c;simp only at d;by_cases h:1<=m
  ·by_cases i:m<=64;·have f:=iQa (k+m) (by omega);have e:=iQa (k+m - 1) (by omega);simp[ai, *,mY,eN]
   simp[ai, *,mY,eN]
  simp[ai, *,mY,eN]
@[simp] def ai8(a:UInt8)(b:UInt32)(n:UInt8)(k m:Int):ax env 239 [.agg [a8 a,af b,a8 n,aI k],aI m]=some (.agg [a8 a,af b,a8 n,aI (IntKind.i64.wrap (k+m))]):=by
 refine ay rfl (by kernel_rfl) (Me _ _ _ _ λg=>?_);simp[ai, *,FZ]
def XI(s:wm)(m:Int):Int:=if eN s then (if m<0\/s.many<=m then 2 else 0) else 8
@[simp] def afQ(a:UInt8)(b:UInt32)(n:UInt8)(k m j:Int):ax env 228 [.agg [a8 a,af b,a8 n,aI k,aI m],aI j] =
 some (if XI ⟨⟨⟨a,b,n⟩,k⟩,m⟩ j=0 then .tup [.agg [a8 a,af b,a8 n,aI (k+j)],aI 0] else .tup [.agg [a8 0,af 0,a8 0,aI 0],aI (XI ⟨⟨⟨a,b,n⟩,k⟩,m⟩ j)]):=by
 refine ay rfl (by kernel_rfl) (RW _ _ _ _ λg=>?_);cases c:eN ⟨⟨⟨a,b,n⟩,k⟩,m⟩ with
 | false=>simp[ai, *,y8,XI]
 | true=>
  have d:=gS c;simp only at d;by_cases f:j<0;·simp[ai, *,y8,XI]
  by_cases h:m<=j;·simp[ai, *,y8,XI]
  have e:=iQa (k+j) (by omega);simp[ai, *,y8,XI]
@[simp] def adA(n:Int)(b:0<=n):ax env 207 [aI n,aI 4]=some (.cC 1 (jX (be 4 n)) none):=by
 refine ay rfl (by kernel_rfl) (Ca _ _ _ _ λg=>?_);have a:IntKind.i64.wrap (-1) = -1:=rfl;have c:IntKind.i64.wrap 0=0:=rfl;simp[ai, *,xS];refine dg _ _ _ _ _ λg=>?_;simp[ai, *,cS,gG,fF];refine dg _ _ _ _ _ λg=>?_;simp[ai, *,cS,gG,fF];refine dg _ _ _ _ _ λg=>?_;simp[ai, *,cS,gG,fF];refine dg _ _ _ _ _ λg=>?_;simp[ai, *,cS,gG,fF];refine dg _ _ _ _ _ λg=>?_;simp[ai, *,cS,Qx,jX]
@[simp] def Sc(n:Int)(b:0<=n):ax env 207 [aI n,aI 7]=some (.cC 1 (jX (be 7 n)) none):=by
 refine ay rfl (by kernel_rfl) (Ca _ _ _ _ λg=>?_);have a:IntKind.i64.wrap (-1) = -1:=rfl;have c:IntKind.i64.wrap 0=0:=rfl;simp[ai, *,xS];refine dg _ _ _ _ _ λg=>?_;simp[ai, *,cS,gG,fF];refine dg _ _ _ _ _ λg=>?_;simp[ai, *,cS,gG,fF];refine dg _ _ _ _ _ λg=>?_;simp[ai, *,cS,gG,fF];refine dg _ _ _ _ _ λg=>?_;simp[ai, *,cS,gG,fF];refine dg _ _ _ _ _ λg=>?_;simp[ai, *,cS,gG,fF];refine dg _ _ _ _ _ λg=>?_;simp[ai, *,cS,gG,fF];refine dg _ _ _ _ _ λg=>?_;simp[ai, *,cS,gG,fF];refine dg _ _ _ _ _ λg=>?_;simp[ai, *,cS,ajF,jX]
def ku(h:xn):List UInt8:=h.lv :: (be 4 h.cats.toNat++[h.num])
@[simp] def ack(h:xn):(ku h).length=6:=by simp[ku]
@[simp] def MB(a:UInt8)(b:UInt32)(n:UInt8):ax env 162 [.agg [a8 a,af b,a8 n]]=some (if mA ⟨a,b,n⟩ then .tup [.fsl 1 (jX (ku ⟨a,b,n⟩)) none,aI 0] else .tup [bI,aI 8]):=by
 refine ay rfl (by kernel_rfl) (ED _ _ _ λg=>?_);cases h:mA ⟨a,b,n⟩ with
 | true=>simp[ai, *,tQ,bad,jX,ku]
 | false=>simp[ai, *,tQ,bad]
def k8(i:bM):List UInt8:=ku i.h++be 7 i.n
@[simp] def ach(i:bM):(k8 i).length=13:=by simp[k8]
@[simp] def ajf(a:UInt8)(b:UInt32)(n:UInt8)(k:Int):ax env 208 [.agg [a8 a,af b,a8 n,aI k]]=some (if E3 ⟨⟨a,b,n⟩,k⟩ then .tup [.cC 1 (jX (k8 ⟨⟨a,b,n⟩,k⟩)) none,aI 0] else .tup [bI,aI 8]):=by
 refine ay rfl (by kernel_rfl) (Pb _ _ _ λg=>?_);cases h:E3 ⟨⟨a,b,n⟩,k⟩ with
 | true=>
  have c:=Kh h;have e:=Sc k (by simp only at c;omega);have d:mA ⟨a,b,n⟩=true:=by simp only[E3,aT]at h;exact h.1
  simp only at c;simp[ai, *,CQ,bad,jX,k8]
 | false=>simp[ai, *,CQ,bad]
def zA(n:Int):Bool:=(decide (0<=n)&&decide (n<55296))||(decide (57343<n)&&decide (n<=1114111))
@[simp] def ah4(n:Int):ax env 216 [.v (.int .i32 n)]=some (aB (zA n)):=by
 refine ay rfl (by kernel_rfl) (wo _ _ _ λg=>?_);simp[ai, *,px,zA];repeat' ((first | apply ji<;>intro h | apply fY<;>intro h | apply fZ<;>intro h | apply fW<;>intro h | apply fX<;>intro h)<;>(try simp only[iQb,iQc,dI,kT,aT,fp]at h)<;>(try simp[ai, *]))
 all_goals (try grind)
@[simp] def ah1(n:Int):ax env 215 [.v (.int .i32 n)]=some (aB (!pv n)):=by
 refine ay rfl (by kernel_rfl) (EA _ _ _ λg=>?_);by_cases h:n = -1;·subst h;simp[ai, *,tO,pv]
 simp[ai, *,tO,pv,zA]
def zR:List Int->Nat->Int
 | [],_ => -1
 | n :: l,k=>if pv n then zR l (k+1) else k
def Qb(l:List Int) : ∀k:Nat,(0<=zR l k↔l.all pv=false):=by
 induction l with| nil=>intro k;simp[zR]| cons n l b=>
  intro k;unfold zR;cases h:pv n with
  | true=>rw[if_pos rfl,b,vm,h,m9]
  | false=>simp[h]
def O6{x0:AV}{Q:AV->aa->Prop}{l:List Int}(a:Sl 1 (rows l) x0)(d:l.length<4611686018427387904) : ∀(s:List Int)(k:Nat)(i:Int)(H:aa),l.drop k=s->k<=l.length->i=k ->
 (∀y H',y=aI (zR s k)->Q y H') ->
 bu env Tryz.f229 0 dX [(8,aI i),(0,x0),(1,.fn (.func 215) [] []),(7,aI l.length)] H Q:=by
 intro s;induction s with
 | nil=>rintro k i H hs hk rfl hQ;obtain rfl:=drop_nil hs hk;refine kV _ _ _ _ _ _ λg=>?_;simp[ai, *,dY];all_goals exact hQ _ _ rfl
 | cons b s o=>
  rintro k i H hs hk rfl hQ;obtain⟨n,p,c,j⟩:=drop_cons hs;refine kV _ _ _ _ _ _ λg=>?_;have q:=iQa ((k:Int)+1) (by omega);cases h:pv b with
  | true=>simp[ai, *,dY,a.idx,rows,aR];exact o (k+1) _ _ c (by omega) (by simp) (λy H' e=>hQ y H' (by simp[e,zR,h]))
  | false=>simp[ai, *,dY,a.idx,rows,aR];exact hQ _ _ (by simp[zR,h])
def abO:bP env.P .eql 36 (.tmp 3) (.const (.slice none 0 0)) (some (.v (.slice none 0 0))) (some (.v (.slice none 0 0)))=some (aB true,[]):=by kernel_rfl
section
variable{x:AV}{l:List Int}(a:Sl 1 (rows l) x)(d:l.length<4611686018427387904)
include a d
theorem Pv:ax env 229 [x,.fn (.func 215) [] []]=some (aI (zR l 0)):=by
 refine ay rfl (by kernel_rfl) (rA _ _ _ _ λg=>?_);have h:=a.len;simp[ai, *,lF];exact O6 a d l 0 _ _ rfl (by omega) rfl (λy H' e=>by simp[e])
theorem Vm:ax env 217 [x,.fn (.func 215) [] []]=some (aB (!l.all pv)):=by
 refine ay rfl (by kernel_rfl) (pA _ _ _ _ λg=>?_);have h:=Pv a d;have e:decide (0<=zR l 0) = !l.all pv:=by
  have:=Qb l 0;cases h:l.all pv<;>simp[h]at this ⊢ <;> omega
 simp[ai, *,kG,a.r]
theorem EH:ax env 187 [x]=some (aI (BZ l)):=by
 refine ay rfl (by kernel_rfl) (Hc _ _ _ λg=>?_);have h:=Vm a d;have c:=a.len;by_cases b:64<l.length
 ·have:(64:Int)<l.length:=by omega
  simp[ai, *,wb,BZ,a.r]
 have : ¬(64:Int)<l.length:=by omega
 cases e:l.all pv<;>simp[ai, *,wb,BZ,a.r]
theorem JV(i:l.length * 4<=140737488355328):ax env 173 [x]=some (sv x):=by
 refine ay rfl (by kernel_rfl) (tC _ _ _ λg=>?_);rcases a with ⟨rfl,h⟩ | ⟨c,rfl,j⟩
 ·have k:=abO;simp[ai, *,fw]
 by_cases e:l=[];·subst e;simp[ai, *,fw,rows]
 have b:rows l≠[]:=(by simpa using e);have hp:0<l.length:=Gw.2 e;rw[tM 1 c b];simp[ai, *,fw]
end
def Qo{x0 x1:AV}{Q:AV->aa->Prop}{l m:List Int}(a:Sl 1 (rows l) x0)(f:Sl 1 (rows m) x1)(d:l.length<4611686018427387904)(j:m.length=l.length) : ∀(s t:List Int)(k:Nat)(i:Int)(H:aa),l.drop k=s->m.drop k=t->k<=l.length->i=k ->
 (∀y H',y=aB (decide (s=t))->Q y H') ->
 bu env Tryz.f226 0 eQ [(13,aI i),(1,x1),(0,x0),(12,aI l.length)] H Q:=by
 intro s;induction s with
 | nil=>rintro t k i H hs ht hk rfl hQ;obtain rfl:=drop_nil hs hk;rw[<-j,OK]at ht;subst ht;refine lO _ _ _ _ _ _ λg=>?_;simp[ai, *,eU];all_goals exact hQ _ _ rfl
 | cons b s z=>
  rintro t k i H hs ht hk rfl hQ;obtain⟨v,A,h,u⟩:=drop_cons hs;cases t with
  | nil=>have:=iQg List.length ht;simp at this;omega
  | cons c t=>
  obtain⟨o,w,n,p⟩:=drop_cons ht;refine lO _ _ _ _ _ _ λg=>?_;have B:=iQa ((k:Int)+1) (by omega);by_cases q:b=c;·subst q;simp[ai, *,eU,a.idx,f.idx,rows,aR];exact z t (k+1) _ _ h n (by omega) (by simp) (λy H' e=>hQ y H' (by simp[e]))
  simp[ai, *,eU,a.idx,f.idx,rows,aR];all_goals exact hQ _ _ (by simp[q])
def R6{x0 x1:AV}{Q:AV->aa->Prop}{l m:List Int}(a:Sl 1 (rows l) x0)(f:Sl 1 (rows m) x1)(d:l.length<4611686018427387904)(j:m.length=l.length) : ∀(s t:List Int)(k:Nat)(i:Int)(H:aa),l.drop k=s->m.drop k=t->k<=l.length->i=k ->
 (∀y H',y=aB (decide (s=t))->Q y H') ->
 bu env Tryz.f133 0 iY [(5,aI i),(1,x1),(0,x0)] H Q:=by
 intro s;induction s with
 | nil=>rintro t k i H hs ht hk rfl hQ;obtain rfl:=drop_nil hs hk;rw[<-j,OK]at ht;subst ht;refine pt _ _ _ _ _ λg=>?_;simp[ai, *,ja,a.len];all_goals exact hQ _ _ rfl
 | cons b s z=>
  rintro t k i H hs ht hk rfl hQ;obtain⟨v,A,h,u⟩:=drop_cons hs;cases t with
  | nil=>have:=iQg List.length ht;simp at this;omega
  | cons c t=>
  obtain⟨o,w,n,p⟩:=drop_cons ht;refine pt _ _ _ _ _ λg=>?_;have B:=iQa ((k:Int)+1) (by omega);by_cases q:b=c;·subst q;simp[ai, *,ja,a.idx,f.idx,a.len,rows,aR];exact z t (k+1) _ _ h n (by omega) (by simp) (λy H' e=>hQ y H' (by simp[e]))
  simp[ai, *,ja,a.idx,f.idx,a.len,rows,aR];all_goals exact hQ _ _ (by simp[q])
section
variable{x y:AV}{l m:List Int}(a:Sl 1 (rows l) x)(f:Sl 1 (rows m) y)(d:l.length<4611686018427387904)
include a f d
theorem Si:ax env 226 [x,y]=some (aB (decide (l=m))):=by
 refine ay rfl (by kernel_rfl) (tB _ _ _ _ λg=>?_);have j:=a.len;have k:=f.len;by_cases h:m.length=l.length
 ·have c:(m.length:Int)=l.length:=by omega
  simp[ai, *,jw];exact Qo a f d h l m 0 0 _ rfl rfl (by omega) rfl (λy H' e=>by simp[e])
 have c : ¬(l.length:Int)=m.length:=by omega
 have b:l≠m:=λe=>h (by rw[e]);have i : ¬(m.length:Int)=l.length:=by omega
 simp[ai, *,jw]
theorem Mz:ax env 133 [x,y]=some (aB (decide (l=m))):=by
 refine ay rfl (by kernel_rfl) (yz _ _ _ _ λg=>?_);have j:=a.len;have k:=f.len;by_cases h:m.length=l.length
 ·have c:(m.length:Int)=l.length:=by omega
  simp[ai, *,m7];exact R6 a f d h l m 0 0 _ rfl rfl (by omega) rfl (λy H' e=>by simp[e])
 have c : ¬(l.length:Int)=m.length:=by omega
 have b:l≠m:=λe=>h (by rw[e]);have i : ¬(m.length:Int)=l.length:=by omega
 simp[ai, *,m7]
end
def fL(l:List Int):List UInt8:=l.flatMap λn=>be 4 n
def zF(l:List Int):(fL l).length=4 * l.length:=by
 induction l with| nil=>rfl| cons n l a=>show(be 4 n++fL l).length=_;rw[mI,a,Xf,qO];omega
def SF{l:List Int}{p:AV}(u:Sl 1 (rows l) p)(O:l.length<100000)(E : ∀n∈l, -2147483648<=n/\n<=2147483647){Q:AV->aa->Prop} :
 ∀(s:List Int)(k:Nat)(i:Int)(a:List Int)(j:AV)(H:aa),l.drop k=s->k<=l.length->i=k->a.length=k->Fr H->qq [32] 1 (jX (fL a)) H j->(a=[]->j=bI) ->
 (∀y H',qq [32] 1 (jX (fL (a++s))) H' y->(a++s=[]->y=bI)->Q (.tup [y,aI 0]) H') ->
 bu env Tryz.f210 0 sn [(15,aI i),(5,j),(13,p),(14,aI l.length)] H Q:=by
 intro s;induction s with
 | nil=>rintro k i a j H hs hk rfl ha hF hO hN hQ;obtain rfl:=drop_nil hs hk;refine AU _ _ _ _ _ _ λg=>?_;have d:=hQ j H (by simpa using hO) (by simpa using hN);clear hQ hO hN;simp[ai, *,sE,u.len];all_goals exact d
 | cons n s C=>
  rintro k i a j H hs hk rfl ha hF hO hN hQ;obtain⟨I,M,w,x⟩:=drop_cons hs;have F:=E n (by rw[<-M];exact je _);have T:=iQa ((k:Int)+1) (by omega);refine AU _ _ _ _ _ _ λg=>?_;have L:bL (rows l) k 0 1 false=some (.v (.int .i32 n)):=by simp[rows,x,aR]
  have N:n.fdiv (2 ^ min 24 IntKind.i32.bits)=n / 16777216:=by rw[show(2:Int) ^ min 24 IntKind.i32.bits=16777216 from rfl];exact fF n 16777216
  have K:n.fdiv (2 ^ min 16 IntKind.i32.bits)=n / 65536:=by rw[show(2:Int) ^ min 16 IntKind.i32.bits=65536 from rfl];exact fF n 65536
  have P:n.fdiv (2 ^ min 8 IntKind.i32.bits)=n / 256:=by rw[show(2:Int) ^ min 8 IntKind.i32.bits=256 from rfl];exact fF n 256
  have o:=λA H'=>C (k+1) ((k:Int)+1) (a++[n]) A H' w (by omega) (by simp) (by simp;omega);have d : ∀y H',qq [32] 1 (jX (fL ((a++[n])++s))) H' y->((a++[n])++s=[]->y=bI)->Q (.tup [y,aI 0]) H':=λy H' h F=>hQ y H' (by simpa using h) (λe=>by simp at e);have q:=zF a;have b:(jX (fL a)).length=4 * a.length:=by rw[show(jX (fL a)).length=(fL a).length from by simp,q]
  have f : ∀(g m:Nat)(H':aa),m=4 * a.length+4->H'.get ⟨0,32,g,0⟩=some ⟨1,jX (fL a)++[a8 (u8 (n / 16777216)),a8 (u8 (n / 65536)),a8 (u8 (n / 256)),a8 (u8 n)],true,false⟩->qq [32] 1 (jX (fL (a++[n]))) H' (.bN ⟨0,32,g,0⟩ 0 m none):=by
   intro g m H' G h;subst G;have e:jX (fL (a++[n]))=jX (fL a)++[a8 (u8 (n / 16777216)),a8 (u8 (n / 65536)),a8 (u8 (n / 256)),a8 (u8 n)]:=by simp[fL,Qx,jX]
   rw[e];exact .inr ⟨32,g,by simp,by rw[mI,b];rfl,h⟩
  clear hQ hN C;rcases hO with ⟨rfl,J⟩ | ⟨t,gg,B,rfl,D⟩
  ·have z:a=[]:=(by have:=iQg List.length J;rw[b]at this;simp only[CZ]at this;exact C4 (by omega));subst z;have c:=f (H.gen 0 32) 4;clear f;simp[ai, *,sE,u.r,u.idx,gG,fF];exact o _ _ (by simp(maxDischargeDepth:=12) [fN, *]) (c _ rfl (by simp[fL])) (λe=>by simp at e) d
  rw[nc]at B;subst B;have S:(H.get ⟨0,32,gg,0⟩).isSome=true:=by rw[D];rfl
  have R:ow 1 1 (jX (fL a)).length true none (some ⟨1,jX (fL a),true,false⟩) (some [a8 (u8 (n / 16777216)),a8 (u8 (n / 65536)),a8 (u8 (n / 256)),a8 (u8 n)]):=(by rw[aE,b];refine⟨rfl,b.symm ▸ rfl,.inr ⟨?_,rfl⟩⟩;simp;omega);have c:=λH'=>f (H.gen 0 32) ((jX (fL a)).length+4) H' (by rw[b]);clear f ha b q;generalize jX (fL a)=bs at *;simp[ai, *,sE,u.r,u.idx,gG,fF];exact o _ _ (by simp(maxDischargeDepth:=12) [fN, *]) (c _ (by simp)) (λe=>by simp at e) d
def Yd{l:List Int}{x:AV}(d:Sl 1 (rows l) x)(q:l.length<100000)(m : ∀n∈l, -2147483648<=n/\n<=2147483647):ax env 210 [x]=some (if BZ l=0 then .tup [ep 1 (jX (fL l)),aI 0] else .tup [bI,aI (BZ l)]):=by
 refine ay rfl (by kernel_rfl) (KO _ _ _ λg=>?_);have j:=EH d (by omega);have v:=d.len;by_cases h:BZ l=0
 ·rw[if_pos h];rw[h]at j;have a:=λH Q=>SF d q m (H:=H) (Q:=Q) l 0 0 [] bI rfl (by omega) rfl rfl;have c : ∀y H',qq [32] 1 (jX (fL ([]++l))) H' y->([]++l=[]->y=bI)->view H'.get 8 (.tup [y,aI 0])=some (.tup [ep 1 (jX (fL l)),aI 0]):=by
   intro y H' i b;rw[sZ]at i b;rcases i with ⟨rfl,u⟩ | ⟨t,gg,w,rfl,o⟩
   ·rw[u];simp[ep]
   have f:jX (fL l)≠[]:=by
    intro e;have p:=iQg List.length e;have A:=zF l;have z:(jX (fL l)).length=(fL l).length:=by simp
    simp only[CZ]at p;have:l=[]:=C4 (by omega);cases b this
   rw[qv 1 f];generalize jX (fL l)=bs at *;simp[o]
  have run:=λH k=>a H (λx H=>view H.get 8 x=some (.tup [ep 1 (jX (fL l)),aI 0])) k (.inl ⟨rfl,rfl⟩) (λ_=>rfl) c;clear a c h;generalize ep 1 (jX (fL l))=yo at *;simp[ai, *,zZ,d.r];all_goals exact run _ (by simp(maxDischargeDepth:=12) [BV, *])
 rw[if_neg h];simp[ai, *,zZ,d.r]
def Ou{P:Program}{t t':TypeId}(i:p9 P t=true)(b:isInt P t'=true)(j:(kN P t).cells.all AV.one=true)(A:Bool)(H:aa)(r:Ref)(n:Int)(E:0<n)(B:n<=bg)(C:n.toNat * vW P t<=bg) :
 ga P A H r (some t) (some t') bI (aI n)=some (.bN r 0 n.toNat none,({ r with k:=0},some ⟨oA P t,List.replicate n.toNat (kN P t),true,false⟩) :: H):=by
 unfold p9 at i;obtain⟨e,c,m,l,D,g,o,F,q,p⟩:=jh i;have y:kN P t=c:=by unfold kN;rw[m,eJ,g];rfl
 rw[y]at j ⊢;have f:(P.underlying t').isNone=false:=by
  unfold isInt at b;cases h:P.underlying t' with
  | none=>rw[h]at b;cases b
  | some d=>rfl
 have u : ¬((P.underlying t').isNone=true\/isInt P t'≠isNum (aI n)):=by rw[f,b];simp[isNum]
 have v : ¬(oA P t≠oA P t\/oA P t=0\/vW P t=0\/c.cells.length≠oA P t):=by simp[o,q,p]
 have a:oe P H.get e (aI n)=some (oA P t,List.replicate n.toNat c):=by
  show(match eX P e,aA P e with | some w,some z=>if 0<=n/\n<=bg/\w.cells.length=z/\w.cells.all AV.one then some (z,List.replicate n.toNat w) else none | _,_=>none)=_;rw[g,l];exact if_pos ⟨by omega,B,by simp[o,q,p],j⟩
 have x:List.replicate n.toNat c≠[]:=by
  intro h;have:=iQg List.length h;simp only[iQQ,CZ]at this;omega
 simp only[ga,fu,eJ,m,Option.map_some,cI,if_neg u,l,D,g,a,if_neg v,if_neg x,iQQ,if_pos C];rfl
@[simp] def aeB(g:cF)(r:Ref):cP env.P false g r .cap #[170] [bI]=some (aI 0,[]):=by kernel_rfl
def abf(n:Int)(b:0<n)(d:n<1000000):ax env 225 [bI,aI n]=some (.fsl 1 [] none):=by
 refine ay rfl (by kernel_rfl) (uY _ _ _ _ λg=>?_);have i : ¬n<0:=by omega
 have e:=iQa n (by omega);have j:IntKind.i64.wrap 0=0:=rfl;have c:n<=140737488355328:=by omega
 have h:n.toNat<=140737488355328:=by omega
 have f:0<n.toNat:=by omega
 have a:=Ou (P:=env.P) (t:=170) (t':=3) (by simp) (by simp) (by simp) true [] ⟨0,22,0,0⟩ n b c (by simp;omega);simp[ai, *,ox, -a];refine tL a ?_;simp;all_goals omega
def lU(s:List (List UInt8 × AV)):List UInt8:=s.flatMap (·.1)
def TC{ps:List (List UInt8 × AV)}{x0:AV}(l:Sl 1 (ps.map (·.2)) x0)(hp : ∀p∈ps,Sl 1 (jX p.1) p.2)(F:ps.length<100000)(J:(lU ps).length<1000000){Q:AV->aa->Prop} :
 ∀(s:List (List UInt8 × AV)) (k:Nat) (i:Int) (acc:List UInt8) (gg:Nat) (H:aa),ps.drop k=s->k<=ps.length->i=k->acc.length+(lU s).length=(lU ps).length->Fr H->H.get ⟨0,24,gg,0⟩=some ⟨1,jX acc,true,false⟩ ->
 (∀g H',H'.get ⟨0,24,g,0⟩=some ⟨1,jX (acc++lU s),true,false⟩->Q (.bN ⟨0,24,g,0⟩ 0 (acc++lU s).length none) H') ->
 bu env Tryz.f209 0 dt [(27,aI i),(6,.bN ⟨0,24,gg,0⟩ 0 acc.length none),(25,x0),(26,aI ps.length)] H Q:=by
 intro s;induction s with
 | nil=>rintro k i acc gg H hs hk rfl ha hF hr hQ;obtain rfl:=drop_nil hs hk;refine lP _ _ _ _ _ _ λg=>?_;have d:=hQ gg H (by simpa [lU] using hr);simp only[lU,GO,rQ]at d;clear hQ hr;simp[ai, *,eV];all_goals exact d
 | cons p s v=>
  rintro k i acc gg H hs hk rfl ha hF hr hQ;obtain⟨y,C,m,o⟩:=drop_cons hs;have c:=hp p (by rw[<-C];exact je _);obtain⟨b,x⟩:=p;simp only at c;have K:=iQa ((k:Int)+1) (by omega);have n:lU ((b,x) :: s)=b++lU s:=rfl;rw[n]at ha hQ;rw[mI]at ha;have z:bL (ps.map (·.2)) k 0 1 false=some x:=by simp[o,c.r]
  have w:(ps.map (·.2)).length=ps.length:=(by simp);have f:(jX b).length=b.length:=(by simp);have j:(jX acc).length=acc.length:=(by simp);have I:(H.get ⟨0,24,gg,0⟩).isSome=true:=by rw[hr];rfl
  have e:=λg H'=>v (k+1) ((k:Int)+1) (acc++b) g H' m (by omega) (by simp) (by simp;omega);have d : ∀g H',H'.get ⟨0,24,g,0⟩=some ⟨1,jX ((acc++b)++lU s),true,false⟩->Q (.bN ⟨0,24,g,0⟩ 0 ((acc++b)++lU s).length none) H':=λg H' h=>by
   have:=hQ g H' (by rw[<-AM];exact h);rw[<-AM]at this;exact this
  clear hQ v hp hs;refine lP _ _ _ _ _ _ λg=>?_;have D:=c.kX;by_cases t:b=[];·subst t;have a:=e gg H hF;simp only[rQ]at a d;have q:=a hr d;clear a e d;simp[ai, *,eV,l.r,l.idx,c.r,c.kX]
  have E:jX b≠[]:=(by simpa using t);have G:ow 1 1 acc.length true none (some ⟨1,jX acc,true,false⟩) (some (jX b)):=(by rw[aE,f,j];exact⟨rfl,rfl,.inr ⟨by simp;omega,rfl⟩⟩);have a:=e (H.gen 0 24);have u:jX (acc++b)=jX acc++jX b:=Ai ..;rw[u]at a;rw[show(acc++b).length=(jX acc).length+(jX b).length by rw[f,j,mI]]at a;clear e f j ha u;generalize jX acc=A at *;generalize jX b=B at *;simp[ai, *,eV,l.r,l.idx,c.r,c.kX];exact a _ (by simp(maxDischargeDepth:=12) [fN, *]) (by simp) d
def TD{ps:List (List UInt8 × AV)}{x0:AV}(m:Sl 1 (ps.map (·.2)) x0)(hp : ∀p∈ps,Sl 1 (jX p.1) p.2)(A:ps.length<100000)(C:(lU ps).length<1000000)(y:0<(lU ps).length){H:aa}{Q:AV->aa->Prop}
 (a : ∀H',Fr H'->H'.get ⟨0,24,H.gen 0 24,0⟩=some ⟨1,[],true,false⟩->bu env Tryz.f209 0 dt [(27,aI 0),(6,.bN ⟨0,24,H.gen 0 24,0⟩ 0 0 none),(25,x0),(26,aI ps.length)] H' Q) :
 ∀(s:List (List UInt8 × AV)) (k:Nat) (i n:Int),ps.drop k=s->k<=ps.length->i=k->0<=n->n+(lU s).length=(lU ps).length->Fr H ->
 bu env Tryz.f209 0 dD [(11,aI i),(3,aI n),(9,x0),(0,x0),(10,aI ps.length)] H Q:=by
 intro s;induction s with
 | nil=>
  rintro k i n hs hk rfl hn0 hn hF;obtain rfl:=drop_nil hs hk;refine my _ _ _ _ _ _ _ λg=>?_;have h:n=(lU ps).length:=by simpa [lU] using hn
  have B:=abf n (by omega) (by omega);have l:(ps.map (·.2)).length=ps.length:=by simp
  clear h hn hp;simp[ai, *,iV,m.r];exact a _ (by simp(maxDischargeDepth:=12) [fN, *]) (by simp)
 | cons p s q=>
  rintro k i n hs hk rfl hn0 hn hF;obtain⟨t,w,e,j⟩:=drop_cons hs;have c:=hp p (by rw[<-w];exact je _);obtain⟨b,x⟩:=p;simp only at c;have f:lU ((b,x) :: s)=b++lU s:=rfl;rw[f,mI]at hn;have D:=iQa ((k:Int)+1) (by omega);have z:=iQa (n+(b.length:Int)) (by omega);have v:bL (ps.map (·.2)) k 0 1 false=some x:=by simp[j,c.r]
  have l:(ps.map (·.2)).length=ps.length:=(by simp);have u:(jX b).length=b.length:=(by simp);have o : ¬n+(b.length:Int)<0:=(by omega);have d:=q (k+1) ((k:Int)+1) (n+(b.length:Int)) e (by omega) (by simp) (by omega) (by omega) hF;refine my _ _ _ _ _ _ _ λg=>?_;clear q a hp hs hn;simp[ai, *,iV,m.r,m.idx,c.r];all_goals exact d
def MG{ps:List (List UInt8 × AV)}{x0:AV}(c:Sl 1 (ps.map (·.2)) x0)(hp : ∀p∈ps,Sl 1 (jX p.1) p.2)(h:ps.length<100000)(i:(lU ps).length<1000000)(k:0<(lU ps).length):ax env 209 [x0]=some (.fsl 1 (jX (lU ps)) none):=by
 refine ay rfl (by kernel_rfl) (ud _ _ _ λg=>?_);have l:(ps.map (·.2)).length=ps.length:=by simp
 have j:=c.len;have f:(jX (lU ps)).length=(lU ps).length:=by simp
 have n:=λH' Q d e=>TC c hp h i (Q:=Q) ps 0 0 [] 0 H' rfl (by omega) rfl (by simp) d e;have m:=λQ b=>TD c hp h i k (H:=[]) (Q:=Q) b ps 0 0 0 rfl (by omega) rfl (by omega) (by omega) Fr.nil;clear hp;simp[ai, *,nr,c.r];refine m _ λH' d e=>n H' _ d e λq o a=>?_;rw[sZ]at a ⊢;rw[<-f];generalize jX (lU ps)=B at *;simp[a]
end
end Go.Proofs.YtmkmimgokagimaaGreat
