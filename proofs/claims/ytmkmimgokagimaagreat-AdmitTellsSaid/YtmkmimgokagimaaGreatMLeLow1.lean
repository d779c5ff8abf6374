/-
  The document's answers on ids, runes and operations. No statement of a seat is proved here.
-/
import Derived.Test.YtmkmimgokagimaaGreatMLeDoc7
import Derived.Test.YtmkmimgokagimaaGreatMLeTwin
set_option linter.unusedVariables false
set_option linter.unusedSimpArgs false
set_option linter.unusedSectionVars false
set_option linter.unnecessarySimpa false
set_option maxRecDepth 1000000
namespace Go.Proofs.YtmkmimgokagimaaGreat
open Go.Ab
section
attribute [local simp] aG ay aw aF aE bQ gX aM aA aD bI bH bn aN aj bf fe
@[simp] theorem vw(a:UInt8)(b:UInt32)(n:UInt8):ak env 93 [.agg [a8 a,ae b,a8 n]]=some (aB (dZ ⟨a,b,n⟩)):=by
 refine an rfl (by kernel_rfl) (uZ _ _ _ λg=>?_)
 simp[ai, *,nO,dZ]
 repeat' ((first | apply iV<;>intro h | apply fZ<;>intro h | apply ga<;>intro h | apply fX<;>intro h | apply fY<;>intro h)<;>(try simp only[decide_eq_true_eq,decide_eq_false_iff_not,dN,kG,aY,fv]at h)<;>(try simp[ai, *]))
@[simp] theorem aiU(a:UInt8)(b:UInt32)(n:UInt8)(k:Int):ak env 140 [.agg [a8 a,ae b,a8 n,aI k]]=some (aB (FB ⟨⟨a,b,n⟩,k⟩)):=by
 refine an rfl (by kernel_rfl) (z8 _ _ _ λg=>?_)
 simp[ai, *,ti,FB]
 repeat' ((first | apply iV<;>intro h | apply fZ<;>intro h | apply ga<;>intro h | apply fX<;>intro h | apply fY<;>intro h)<;>(try simp only[decide_eq_true_eq,decide_eq_false_iff_not,dN,kG,aY,fv]at h)<;>(try simp[ai, *]))
@[simp] theorem abn(a:UInt8)(b:UInt32)(n:UInt8)(k m:Int):ak env 138 [.agg [a8 a,ae b,a8 n,aI k,aI m]]=some (aB (eJ ⟨⟨⟨a,b,n⟩,k⟩,m⟩)):=by
 refine an rfl (by kernel_rfl) (vZ _ _ _ λg=>?_)
 cases d:FB ⟨⟨a,b,n⟩,k⟩ with
 | false=>simp[ai, *,fq,eJ]
 | true=>
  have c:=KV d
  simp only at c
  by_cases j:1<=m
  ·by_cases f:m<=64
   ·have i:=IntWalk.i64_in (1099511627777 - m) (by omega)
    have e:decide (k+m - 1<=1099511627776)=decide (k<=1099511627777 - m):=by
     by_cases h:k<=1099511627777 - m
     ·rw[decide_eq_true h,decide_eq_true (by omega)]
     ·rw[decide_eq_false h,decide_eq_false (by omega)]
    simp[ai, *,fq,eJ]
   ·simp[ai, *,fq,eJ]
  ·simp[ai, *,fq,eJ]
@[simp] theorem agt(a:UInt8)(b:UInt32)(n:UInt8)(k:Int):ak env 139 [.agg [a8 a,ae b,a8 n,aI k]]=some (aB (gx ⟨⟨a,b,n⟩,k⟩)):=by
 refine an rfl (by kernel_rfl) (y6 _ _ _ λg=>?_)
 simp[ai, *,rN,fw,bM,gx]
@[simp] theorem aj8(n:Int):ak env 194 [aI n]=some (aB (Ae n)):=by
 refine an rfl (by kernel_rfl) (Bi _ _ _ λg=>?_)
 have e:Ae n=(decide (0<=n)&&(decide (n<=1114111)&&(decide (n<55296)||decide (57343<n)))):=by
  unfold Ae
  rw[Hd]
  simp only[fv,aY,decide_eq_true_eq]
  omega
 rw[e]
 simp[ai, *,tO]
 repeat' ((first | apply iV<;>intro h | apply fZ<;>intro h | apply ga<;>intro h | apply fX<;>intro h | apply fY<;>intro h)<;>(try simp only[decide_eq_true_eq,decide_eq_false_iff_not,dN,kG,aY,fv]at h)<;>(try simp[ai, *]))
theorem LZ{l:List Int}{x0:AV}(d:Sl 1 (rows l) x0)(w:l.length<4611686018427387904)(o : ∀a∈l, -2147483648<=a/\a<=2147483647){Q:AV->aa->Prop}{H:aa} :
 ∀(s:List Int)(k:Nat)(i:Int),l.drop k=s->k<=l.length->i=k->(∀y,y=aI (bad (s.all pJ))->Q y H) ->
 bF env Tryz.f141 0 ic [(3,aI i),(0,x0)] H Q:=by
 intro s
 induction s with
 | nil=>
  rintro k i hs hk rfl hQ
  obtain rfl:=drop_nil hs hk
  refine oS _ _ _ _ λg=>?_
  simp[ai, *,fu,d.r]
  all_goals exact hQ _ rfl
 | cons a s j=>
  rintro k i hs hk rfl hQ
  obtain⟨q,p,f,n⟩:=drop_cons hs
  have t:=o a (by rw[<-p];exact mq _)
  refine oS _ _ _ _ λg=>?_
  have v:=IntWalk.i64_in ((k:Int)+1) (by omega)
  have u:=IntWalk.i64_in a (by omega)
  have c:pJ a=(decide (a = -1)||Ae a):=by simp[pJ,Ae,Bool.or_assoc]
  by_cases m:a = -1
  ·subst m
   have b : ∀y,y=aI (bad (s.all pJ))->Q y H:=λy e=>hQ y (by rw[e];simp[pJ])
   clear hQ
   simp[ai, *,fu,d.r,d.idx,aR]
   exact j (k+1) _ f (by omega) (by simp) b
  ·cases h:Ae a with
   | true=>
    have b : ∀y,y=aI (bad (s.all pJ))->Q y H:=λy e=>hQ y (by rw[e];simp[c,h])
    clear hQ c
    simp[ai, *,fu,d.r,d.idx,aR]
    exact j (k+1) _ f (by omega) (by simp) b
   | false=>
    have b : ∀y,y=aI 8->Q y H:=λy e=>hQ y (by rw[e];simp[c,h,m])
    clear hQ c
    simp[ai, *,fu,d.r,d.idx,aR]
    all_goals exact b _ rfl
theorem KA{l:List Int}{x:AV}(c:Sl 1 (rows l) x)(f:l.length<4611686018427387904)(d : ∀a∈l, -2147483648<=a/\a<=2147483647):ak env 141 [x]=some (aI (Cr l)):=by
 refine an rfl (by kernel_rfl) (ye _ _ _ λg=>?_)
 by_cases b:64<l.length
 ·have:(64:Int)<l.length:=by omega
  simp[ai, *,mj,Cr,c.r]
 ·have : ¬(64:Int)<l.length:=by omega
  have e:Cr l=bad (l.all pJ):=by unfold Cr bad;rw[if_neg b]
  simp[ai, *,mj,c.r]
  exact LZ c f d l 0 _ rfl (by omega) rfl (λy e=>by simp[e])
theorem RL(m:UInt8)(u:UInt8)(p:UInt32)(q:UInt8)(i:Int)(n:UInt8)(t:UInt32)(o:UInt8)(v:Int)(f:Int)(d:UInt8)(c:UInt32)(e:UInt8)(b:Int)(j:UInt8)(h:UInt32){x:AV}{l:List Int}(k:Sl 1 (rows l) x)(S:l.length<2000000)(K : ∀a∈l, -2147483648<=a/\a<=2147483647):ak env 73 [.agg [a8 m,a8 u,ae p,a8 q,aI i,a8 n,ae t,a8 o,aI v,aI f,a8 d,ae c,a8 e,aI b,a8 j,ae h,x]]=some (aB (lT (⟨m,⟨u,p,q⟩,i,⟨⟨⟨n,t,o⟩,v⟩,f⟩,⟨⟨d,c,e⟩,b⟩,⟨j,h⟩,l⟩:aC))):=by
 refine an rfl (by kernel_rfl) (z0 _ _ _ λg=>?_)
 have O:=KA k (by omega) K
 have U:=Ch l
 unfold lT
 cases R:dZ ⟨u,p,q⟩ with
 | false=>simp[ai, *,aQ,k.r]
 | true=>
 rcases EZ i 1 with C | L
 ·have L : ¬1<=i:=by omega
  simp[ai, *,aQ,k.r]
 have C : ¬i<1:=by omega
 rcases EZ i 16777216 with J | E
 rotate_left
 ·have J : ¬i<16777216:=by omega
  simp[ai, *,aQ,k.r]
 have E : ¬16777216<=i:=by omega
 cases P:eJ ⟨⟨⟨n,t,o⟩,v⟩,f⟩ with
 | false=>simp[ai, *,aQ,k.r]
 | true=>
 by_cases G:m=1
 ·subst G
  unfold C9
  simp only[I7,if_true]
  cases B:w7 (⟨j,h⟩:iI) with
  | false=>
   unfold w7 at B
   simp[ai, *,aQ,k.r,fw,bM]
  | true=>
   unfold w7 at B
   cases F:D5 ⟨n,t,o⟩ ⟨u,p,q⟩ with
   | false=>
    unfold D5 at F
    cases y:gx (⟨⟨d,c,e⟩,b⟩:bV) with
    | false=>cases H:FB (⟨⟨d,c,e⟩,b⟩:bV)<;>simp[ai, *,aQ,k.r,fw,bM]
    | true=>simp[ai, *,aQ,k.r,fw,bM]
   | true=>
    unfold D5 at F
    by_cases T:(l.length:Int)=f
    ·cases y:gx (⟨⟨d,c,e⟩,b⟩:bV) with
     | false=>cases H:FB (⟨⟨d,c,e⟩,b⟩:bV)<;>simp[ai, *,aQ,k.r,fw,bM]
     | true=>simp[ai, *,aQ,k.r,fw,bM]
    ·cases y:gx (⟨⟨d,c,e⟩,b⟩:bV) with
     | false=>cases H:FB (⟨⟨d,c,e⟩,b⟩:bV)<;>simp[ai, *,aQ,k.r,fw,bM]
     | true=>simp[ai, *,aQ,k.r,fw,bM]
 ·by_cases w:zI (⟨m,⟨u,p,q⟩,i,⟨⟨⟨n,t,o⟩,v⟩,f⟩,⟨⟨d,c,e⟩,b⟩,⟨j,h⟩,l⟩:aC)=true
  ·have A:=w
   simp only[zI,aY,decide_eq_true_eq]at A
   obtain⟨y,z⟩:=A
   subst z
   unfold C9
   by_cases I:m=2
   ·subst I
    simp only[O5,if_true]
    cases B:w7 (⟨j,h⟩:iI) with
    | false=>
     unfold w7 at B
     simp[ai, *,aQ,k.r,fw,bM]
    | true=>
     unfold w7 at B
     simp[ai, *,aQ,k.r,fw,bM]
   ·by_cases N:m=3
    ·subst N
     simp only[LY,if_true]
     simp[ai, *,aQ,k.r,fw,bM]
    ·simp[ai, *,aQ,k.r,fw,bM]
  ·have Q:C9 (⟨m,⟨u,p,q⟩,i,⟨⟨⟨n,t,o⟩,v⟩,f⟩,⟨⟨d,c,e⟩,b⟩,⟨j,h⟩,l⟩:aC)=false:=by
    have D:zI (⟨m,⟨u,p,q⟩,i,⟨⟨⟨n,t,o⟩,v⟩,f⟩,⟨⟨d,c,e⟩,b⟩,⟨j,h⟩,l⟩:aC)=false:=by simpa using w
    unfold C9 O5 LY
    rw[D]
    simp[G]
   simp only[zI,aY,decide_eq_true_eq,not_and]at w
   cases y:gx (⟨⟨d,c,e⟩,b⟩:bV) with
   | false=>
    clear w
    simp[ai, *,aQ,k.r,fw,bM]
   | true=>
    have z:0<l.length:=Hi.2 (w y)
    have M : ¬l=[]:=w y
    clear w
    simp[ai, *,aQ,k.r,fw,bM]
end
section
attribute [local simp] aG ay bQ gX
@[simp] theorem aj6(q:ah):ak env 179 [.agg [a8 q.lv,ae q.cats,aI q.opens,aI q.ops,aI q.cells]]=some (aB (Fl q)):=by
 refine an rfl (by kernel_rfl) (z6 _ _ _ λg=>?_)
 simp[ai, *,s9]
 repeat' ((first | apply iV<;>intro h | apply fZ<;>intro h | apply ga<;>intro h | apply fX<;>intro h | apply fY<;>intro h)<;>(try simp only[decide_eq_true_eq,decide_eq_false_iff_not,dN,kG,aY,fv]at h)<;>(try simp[ai, *,Fl]))
def Pd(b:UInt32)(n:Nat):Bool:=decide ((b >>> UInt32.ofNat n) % 2=1)
@[simp] theorem akI(a:UInt8)(b:UInt32)(n:Nat)(e:n<32):ak env 201 [.agg [a8 a,ae b],aI n]=some (aB (Pd b n)):=by
 refine an rfl (by kernel_rfl) (Aa _ _ _ _ λg=>?_)
 have d:(n:Int)<=4294967296:=by omega
 have c:(n:Int)<32:=by omega
 simp[ai, *,tl,Pd]
def sH(b d:UInt32):Nat->Nat->Bool
 | 0,_=>true
 | m+1,n => !(Pd b n && !Pd d n)&&sH b d m (n+1)
theorem Tf{a c:UInt8}{b d:UInt32}{r1 r2:Ref}{Q:AV->aa->Prop} : ∀(m n:Nat)(i:Int)(H:aa),n+m=32->i=n->Fr H->H.get r1=some ⟨2,[.agg [a8 a,ae b]],false,false⟩->H.get r2=some ⟨2,[.agg [a8 c,ae d]],false,false⟩ ->
 (∀y H',y=aB (sH b d m n&&decide (a<=c))->Q y H') ->
 bF env Tryz.f144 0 jw [(5,aI i),(3,.ptr r2 0 0),(2,.ptr r1 0 0)] H Q:=by
 intro m
 induction m with
 | zero=>
  rintro n i H hn rfl hF h1 h2 hQ
  obtain rfl:n=32:=by omega
  refine qf _ _ _ _ _ λg=>?_
  simp[ai, *,mm]
  all_goals (first | exact hQ _ _ rfl | exact hQ _ _ (by simp[*,sH]))
 | succ m o=>
  rintro n i H hn rfl hF h1 h2 hQ
  have p:n<32:=by omega
  have l:(n:Int)<32:=by omega
  refine qf _ _ _ _ _ λg=>?_
  simp[ai, *,mm]
  have e:=IntWalk.i64_in ((n:Int)+1) (by omega)
  have f:=o (n+1) _ H (by omega) rfl hF h1 h2
  cases k:Pd b n<;>cases j:Pd d n
  ·simp[*];exact f λy H' h=>hQ y H' (by simp[h,sH,k,j])
  ·simp[*];exact f λy H' h=>hQ y H' (by simp[h,sH,k,j])
  ·simp[*];exact hQ _ _ (by simp[sH,k,j])
  ·simp[*];exact f λy H' h=>hQ y H' (by simp[h,sH,k,j])
theorem Xc(b:UInt32)(n:Nat)(c:n<32):Pd b n=b.toBitVec.getLsbD n:=by
 unfold Pd
 have a:((b >>> UInt32.ofNat n) % 2=1)↔((b >>> UInt32.ofNat n) % 2).toNat=1:=by rw[<-HD];rfl
 rw[Hd,decide_eq_true_eq,a,UInt32.toNat_mod,UInt32.toNat_shiftRight,UInt32.toNat_ofNat',BitVec.getLsbD,Nat.testBit_eq_decide_div_mod_eq,Nat.shiftRight_eq_div_pow,decide_eq_true_eq]
 have:n % 2 ^ 32 % 32=n:=by omega
 rw[this]
 rfl
theorem Ot(b d:UInt32) : ∀(m n:Nat),n+m=32->(sH b d m n=true ↔ ∀k,n<=k->k<32->(b.toBitVec &&& ~~~d.toBitVec).getLsbD k=false):=by
 intro m
 induction m with
 | zero=>intro n i;simp only[sH,true_iff];intro k f c;omega
 | succ m g=>
  intro n i
  have a:n<32:=by omega
  simp only[sH,aY,g (n+1) (by omega),Xc _ _ a]
  constructor
  ·rintro⟨f,c⟩ k hk hk2
   by_cases e:k=n
   ·subst e
    simp only[Lo,Ln,hk2,decide_true,nX]
    revert f
    cases b.toBitVec.getLsbD k<;>cases d.toBitVec.getLsbD k<;>simp
   ·exact c k (by omega) hk2
  ·intro h
   refine⟨?_,λk f c=>h k (by omega) c⟩
   have:=h n (de _) a
   simp only[Lo,Ln,a,decide_true,nX]at this
   revert this
   cases b.toBitVec.getLsbD n<;>cases d.toBitVec.getLsbD n<;>simp
theorem Ou(b d:UInt32):sH b d 32 0=decide (b &&& ~~~d=0):=by
 rw[Hd,Ot b d 32 0 (by omega),decide_eq_true_eq]
 constructor
 ·intro h
  apply UInt32.toBitVec_inj.1
  apply BitVec.eq_of_getLsbD_eq
  intro i a
  simpa using h i (by omega) a
 ·intro h k _ _
  have:=congrArg UInt32.toBitVec h
  simp only[PI,PH]at this
  rw[this];simp
theorem LN(a:UInt8)(b:UInt32)(c:UInt8)(d:UInt32):ak env 144 [.agg [a8 a,ae b],.agg [a8 c,ae d]]=some (aB (WB a b c d)):=by
 refine an rfl (by kernel_rfl) (Ad _ _ _ _ λg=>?_)
 simp[ai, *,tp]
 exact Tf (a:=a) (b:=b) (c:=c) (d:=d) 32 0 _ _ rfl rfl (by simp(maxDischargeDepth:=12) [CZ, *]) (by simp(maxDischargeDepth:=12) [CZ, *]) (by simp(maxDischargeDepth:=12) [CZ, *]) λy H' e=>by simp[e,Ou,WB,Bool.and_comm]
attribute [local simp] LN
@[simp] theorem ags(a:UInt8)(b:UInt32)(c:UInt8)(d:UInt32):ak env 180 [.agg [a8 a,ae b],.agg [a8 c,ae d]]=some (aB (JB a b c d)):=by
 refine an rfl (by kernel_rfl) (yf _ _ _ _ λg=>?_)
 have i:=a.toNat_lt
 have e:=b.toNat_lt
 have h:=c.toNat_lt
 have j:=d.toNat_lt
 have k:IntKind.i64.wrap ((a.toNat:Int) * 4294967296)=(a.toNat:Int) * 4294967296:=IntWalk.i64_in _ (by omega)
 have l:IntKind.i64.wrap ((c.toNat:Int) * 4294967296)=(c.toNat:Int) * 4294967296:=IntWalk.i64_in _ (by omega)
 have f:IntKind.i64.wrap ((a.toNat:Int) * 4294967296+b.toNat)=(a.toNat:Int) * 4294967296+b.toNat:=IntWalk.i64_in _ (by omega)
 have m:IntKind.i64.wrap ((c.toNat:Int) * 4294967296+d.toNat)=(c.toNat:Int) * 4294967296+d.toNat:=IntWalk.i64_in _ (by omega)
 simp[ai, *,qJ,JB]
 rw[Hd]
 simp only[fv,aY,decide_eq_true_eq,PS,UInt32.lt_iff_toNat_lt,<-Du]
 omega
end
section
attribute [local simp] aG ay bQ gX
attribute [local simp] LN
def ah2(n:Int)(q:ah):Int:=IntKind.i64.wrap (IntKind.i64.wrap (n+q.opens)+IntKind.i64.wrap (4 * q.ops))
def NL(n:Int)(l:List ah):Int:=l.foldl ah2 n
def aa4(n:Int)(q:ah):Int:=IntKind.i64.wrap (n+q.cells)
def C7(n:Int)(l:List ah):Int:=l.foldl aa4 n
theorem Qt(n:Int):C7 n []=n:=id rfl
section
variable{p o:AV}{us:List Clear}{qs:List ah}{gr:Int}(f:Sl 3 (bR us) p)(d:Sl 5 (bL qs) o)(j:qs.length<4611686018427387904)(m:us.length<4611686018427387904)
include f d j m
theorem Tb{r1:Ref}{Q:AV->aa->Prop} : ∀(s:List ah)(k:Nat)(i n:Int)(H:aa),qs.drop k=s->k<=qs.length->i=k ->
 Fr H->H.get r1=some ⟨3,[.agg [p,o,aI gr]],false,false⟩->(∀y H',y=aI (NL n s)->Q y H') ->
 bF env Tryz.f181 0 ju [(4,aI i),(1,.ptr r1 0 0),(3,aI n)] H Q:=by
 intro s
 induction s with
 | nil=>
  rintro k i n H hs hk rfl hF hB hQ
  obtain rfl:=drop_nil hs hk
  refine p8 _ _ _ _ _ λg=>?_
  simp[ai, *,mh,d.r]
  all_goals (first | exact hQ _ _ rfl | exact hQ _ _ (by simp[*]))
 | cons q s b=>
  rintro k i n H hs hk rfl hF hB hQ
  obtain⟨c,h,a,e⟩:=drop_cons hs
  refine p8 _ _ _ _ _ λg=>?_
  simp[ai, *,mh,d.r,d.idx,ah.enc,IntWalk.i64_in ((k:Int)+1) (by omega)]
  exact b (k+1) _ _ _ a (by omega) (by simp) hF hB hQ
@[simp] theorem agk:ak env 181 [.agg [p,o,aI gr]]=some (aI (NL gr qs)):=by
 refine an rfl (by kernel_rfl) (z7 _ _ _ λg=>?_)
 simp[ai, *,tf,f.r,d.r]
 exact Tb (gr:=gr) f d j m qs 0 _ _ _ rfl (by omega) rfl (by simp(maxDischargeDepth:=12) [CZ, *]) (by simp(maxDischargeDepth:=12) [CZ, *]) λy H' e=>by simp[e]
theorem Yk{r1:Ref}{Q:AV->aa->Prop} : ∀(s:List ah)(k:Nat)(i n:Int)(H:aa),qs.drop k=s->k<=qs.length->i=k ->
 Fr H->H.get r1=some ⟨3,[.agg [p,o,aI gr]],false,false⟩->(∀y H',y=aB (decide (NL gr qs<=2048)&&decide (C7 n s<=8192))->Q y H') ->
 bF env Tryz.f134 0 gJ [(6,aI i),(1,.ptr r1 0 0),(5,aI n)] H Q:=by
 intro s
 induction s with
 | nil=>
  rintro k i n H hs hk rfl hF hB hQ
  obtain rfl:=drop_nil hs hk
  refine n8 _ _ _ _ _ λg=>?_
  have:=agk (gr:=gr) f d j m
  simp[ai, *,kF,d.r,f.r]
  repeat' ((first | apply iV<;>intro h | apply fZ<;>intro h | apply ga<;>intro h | apply fX<;>intro h | apply fY<;>intro h)<;>(try simp only[decide_eq_true_eq,decide_eq_false_iff_not,dN,kG,aY,fv]at h)<;>(try simp[ai, *,d.r,f.r]))
  all_goals (first | exact hQ _ _ rfl | exact hQ _ _ (by simp[*,Qt]))
 | cons q s b=>
  rintro k i n H hs hk rfl hF hB hQ
  obtain⟨c,l,a,e⟩:=drop_cons hs
  refine n8 _ _ _ _ _ λg=>?_
  simp[ai, *,kF,d.r,d.idx,ah.enc,IntWalk.i64_in ((k:Int)+1) (by omega)]
  exact b (k+1) _ _ _ a (by omega) (by simp) hF hB hQ
theorem abv{r1:Ref}{Q:AV->aa->Prop} : ∀(s:List ah)(k:Nat)(i:Int)(H:aa),qs.drop k=s->k<=qs.length->i=k ->
 Fr H->H.get r1=some ⟨3,[.agg [p,o,aI gr]],false,false⟩->(∀y H',y=aB (Am (if k=0 then none else qs[k - 1]?) s&&(decide (NL gr qs<=2048)&&decide (C7 0 qs<=8192)))->Q y H') ->
 bF env Tryz.f134 0 ia [(4,aI i),(1,.ptr r1 0 0)] H Q:=by
 intro s
 induction s with
 | nil=>
  rintro k i H hs hk rfl c b hQ
  obtain rfl:=drop_nil hs hk
  refine oQ _ _ _ _ λg=>?_
  simp[ai, *,iq,d.r]
  exact Yk (gr:=gr) f d j m qs 0 _ _ _ rfl (by omega) rfl c b λy H' e=>hQ _ _ (by simp[e,Am])
 | cons q s u=>
  rintro k i H hs hk rfl c b hQ
  obtain⟨x,E,a,t⟩:=drop_cons hs
  have l:=u (k+1)
  refine oQ _ _ _ _ λg=>?_
  cases k with
  | zero=>
   have n:IntKind.i64.wrap 1=1:=rfl
   simp[ai, *,iq,d.r,d.idx,ah.enc]
   repeat' ((first | apply iV<;>intro h | apply fZ<;>intro h | apply ga<;>intro h | apply fX<;>intro h | apply fY<;>intro h)<;>(try simp only[decide_eq_true_eq,decide_eq_false_iff_not,dN,kG,aY,fv]at h)<;>(try simp[ai, *,d.r,d.idx]))
   ·all_goals (first | exact hQ _ _ rfl | exact hQ _ _ (by simp[*,Am]))
   ·exact l _ _ a (by omega) rfl c b λy H' e=>hQ y H' (by simpa [*,Am] using e)
  | succ k=>
   have n:IntKind.i64.wrap ((k:Int)+1+1)=(k:Int)+1+1:=IntWalk.i64_in _ (by omega)
   have F:IntKind.i64.wrap (k:Int)=k:=IntWalk.i64_in _ (by omega)
   have B : ¬(k:Int)+1=0:=by omega
   have v:k<qs.length:=by omega
   have z:(k:Int)+1<qs.length:=by omega
   have A:(0:Int)<=k+1:=by omega
   have D:(0:Int)<(k:Int)+1:=by omega
   have C:(k:Int)<qs.length:=by omega
   have w:qs[k]?=some qs[k]:=fj v
   simp[ai, *,iq,d.r,d.idx,ah.enc]
   repeat' ((first | apply iV<;>intro h | apply fZ<;>intro h | apply ga<;>intro h | apply fX<;>intro h | apply fY<;>intro h)<;>(try simp only[decide_eq_true_eq,decide_eq_false_iff_not,dN,kG,aY,fv]at h)<;>(try simp[ai, *,d.r,d.idx,ah.enc]))
   all_goals first
    | exact hQ _ _ (by simp[*,Am,Ed])
    | exact l _ _ a (by omega) (by simp) c b λy H' e=>hQ y H' (by simpa [*,Am,Ed] using e)
    | skip
theorem abw{r1:Ref}{Q:AV->aa->Prop} : ∀(s:List Clear)(k:Nat)(i:Int)(H:aa),us.drop k=s->k<=us.length->i=k ->
 Fr H->H.get r1=some ⟨3,[.agg [p,o,aI gr]],false,false⟩->(∀y H',y=aB (s.all (λc=>o8 c.lv c.cats c.ok)&&(Am none qs&&(decide (NL gr qs<=2048)&&decide (C7 0 qs<=8192))))->Q y H') ->
 bF env Tryz.f134 0 ib [(3,aI i),(1,.ptr r1 0 0)] H Q:=by
 intro s
 induction s with
 | nil=>
  rintro k i H hs hk rfl hF hB hQ
  obtain rfl:=drop_nil hs hk
  refine oR _ _ _ _ λg=>?_
  simp[ai, *,k7,f.r]
  exact abv (gr:=gr) f d j m qs 0 _ _ rfl (by omega) rfl hF hB λy H' e=>hQ _ _ (by simp[e])
 | cons c s b=>
  rintro k i H hs hk rfl hF hB hQ
  obtain⟨l,q,a,n⟩:=drop_cons hs
  refine oR _ _ _ _ λg=>?_
  simp[ai, *,k7,f.r,f.idx,Clear.enc,IntWalk.i64_in ((k:Int)+1) (by omega)]
  repeat' ((first | apply iV<;>intro h | apply fZ<;>intro h | apply ga<;>intro h | apply fX<;>intro h | apply fY<;>intro h)<;>(try simp only[decide_eq_true_eq,decide_eq_false_iff_not,dN,kG,aY,fv]at h)<;>(try simp[ai, *,f.r,IntWalk.i64_in ((k:Int)+1) (by omega)]))
  exact b (k+1) _ _ a (by omega) (by simp) hF hB λy H' e=>hQ y H' (by simpa [*] using e)
def IH(us:List Clear)(qs:List ah)(gr:Int):Bool:=
 (!decide (8<us.length)&&(!decide (8<qs.length)&&(!decide (gr<0) && !decide (64<gr))))&&(us.all (λc=>o8 c.lv c.cats c.ok)&&(Am none qs&&(decide (NL gr qs<=2048)&&decide (C7 0 qs<=8192))))
theorem Vf:ak env 134 [.agg [p,o,aI gr]]=some (aB (IH us qs gr)):=by
 refine an rfl (by kernel_rfl) (yb _ _ _ λg=>?_)
 have e8 (n:Nat):((8:Int)<(n:Int))↔8<n:=by omega
 simp[ai, *,qH,f.r,d.r]
 repeat' ((first | apply iV<;>intro h | apply fZ<;>intro h | apply ga<;>intro h | apply fX<;>intro h | apply fY<;>intro h)<;>(try simp only[decide_eq_true_eq,decide_eq_false_iff_not,dN,kG,aY,fv]at h)<;>(try simp[ai, *,f.r,d.r,IH]))
 refine abw (gr:=gr) f d j m us 0 _ _ rfl (by omega) rfl (by simp(maxDischargeDepth:=12) [CZ, *]) (by simp(maxDischargeDepth:=12) [CZ, *]) λy H' e=>?_
 simp[*,IH]
omit f d in
theorem VI : ∀ {l:List ah} {n:Int},(∀q∈l,Fl q=true)->0<=n->n+1088 * l.length<=4611686018427387904->NL n l=GL n l:=by
 intro l
 induction l with
 | nil=>intro n _ e a;rfl
 | cons q l b=>
  intro n h e a
  have d:=GZ (h q (jB ..))
  simp only[sc]at a
  have c:IntKind.i64.wrap (4 * q.ops)=4 * q.ops:=IntWalk.i64_in _ (by omega)
  have k:IntKind.i64.wrap (n+q.opens)=n+q.opens:=IntWalk.i64_in _ (by omega)
  have g:IntKind.i64.wrap (n+q.opens+4 * q.ops)=n+q.opens+4 * q.ops:=IntWalk.i64_in _ (by omega)
  have:=b (n:=n+q.opens+4 * q.ops) (λx i=>h x (iA _ i)) (by omega) (by omega)
  simp only[NL,GL,w8,ah2,c,k,g]at this ⊢
  exact this
omit f d in
theorem Qs : ∀ {l:List ah} {n:Int},(∀q∈l,Fl q=true)->0<=n->n+4096 * l.length<=4611686018427387904->C7 n l=US n l:=by
 intro l
 induction l with
 | nil=>intro n _ g a;rfl
 | cons q l b=>
  intro n h g a
  have d:=GZ (h q (jB ..))
  simp only[sc]at a
  have e:IntKind.i64.wrap (n+q.cells)=n+q.cells:=IntWalk.i64_in _ (by omega)
  have:=b (n:=n+q.cells) (λx c=>h x (iA _ c)) (by omega) (by omega)
  simp only[C7,US,w8,aa4,e]at this ⊢
  exact this
omit f d in
theorem Tg:IH us qs gr=tY us qs gr:=by
 rw[N7,IH]
 by_cases h:us.length<=8
 ·by_cases e:qs.length<=8
  ·by_cases i:0<=gr/\gr<=64
   ·cases l:Am none qs with
    | false=>simp
    | true=>
     have c:=NV l
     rw[VI j m c i.1 (by omega),Qs j m c (by omega) (by omega)]
     have a : ¬8<us.length:=by omega
     have b : ¬8<qs.length:=by omega
     have k : ¬gr<0:=by omega
     have n : ¬64<gr:=by omega
     simp[h,e,i,a,b,k,n]
   ·have:(decide (0<=gr)&&decide (gr<=64))=false:=by simp;omega
    have g:(!decide (gr<0) && !decide (64<gr))=false:=by simp;omega
    simp[this,g]
  ·have b:8<qs.length:=by omega
   simp[e,b]
 ·have a:8<us.length:=by omega
  simp[h,a]
@[simp] theorem X9:ak env 134 [.agg [p,o,aI gr]]=some (aB (tY us qs gr)):=by
 rw[Vf f d j m,Tg j m]
@[simp] theorem GX(c:Int)(a:UInt8)(b:UInt32):ak env 158 [.agg [p,o,aI gr],aI c,.agg [a8 a,ae b]]=some (aB (eL us c a b)):=by
 refine an rfl (by kernel_rfl) (yc _ _ _ _ _ λg=>?_)
 by_cases e:0<=c/\c<us.length
 ·obtain⟨n,rfl⟩:=M4 e.1
  have k:n<us.length:=by omega
  simp[ai, *,mi,f.r,d.r,f.idx,eL,Clear.enc]
  repeat' ((first | apply iV<;>intro h | apply fZ<;>intro h | apply ga<;>intro h | apply fX<;>intro h | apply fY<;>intro h)<;>(try simp only[decide_eq_true_eq,decide_eq_false_iff_not,dN,kG,aY,fv]at h)<;>(try simp[ai, *,f.r,d.r,f.idx,eL,Clear.enc]))
 ·have i:0<=c ->¬c<us.length:=by omega
  simp[ai, *,mi,f.r,d.r,f.idx,eL,Clear.enc]
  repeat' ((first | apply iV<;>intro h | apply fZ<;>intro h | apply ga<;>intro h | apply fX<;>intro h | apply fY<;>intro h)<;>(try simp only[decide_eq_true_eq,decide_eq_false_iff_not,dN,kG,aY,fv]at h)<;>(try simp[ai, *,f.r,d.r,f.idx,eL,Clear.enc]))
end
end
section
attribute [local simp] aG ay aw aF aE bQ gX aM aA aD bI bH bn aN aj bf fe
theorem RK(a:UInt8)(b:UInt32)(c:UInt8)(d:UInt32):ak env 144 [.agg [a8 a,ae b],.agg [a8 c,ae d]]=some (aB (qS ⟨a,b⟩ ⟨c,d⟩)):=LN a b c d
attribute [local simp] RK
theorem Vl(d:UInt8)(b:UInt32)(c:UInt8)(a:Int)(j:Int)(h:UInt8)(i:UInt32)(f:UInt8)(k:Int)(n:eJ (⟨⟨⟨d,b,c⟩,a⟩,j⟩:wN)=true):ak env 245 [.agg [a8 d,ae b,a8 c,aI a,aI j],.agg [a8 h,ae i,a8 f,aI k]]=some (aB (hasB (⟨⟨⟨d,b,c⟩,a⟩,j⟩:wN) (⟨⟨h,i,f⟩,k⟩:bV))):=by
 refine an rfl (by kernel_rfl) (zW _ _ _ _ λg=>?_)
 have m:=gI n
 simp only at m
 have p:=IntWalk.i64_in (a+j) (by omega)
 have l:decide ((⟨d,b,c⟩:mz)=⟨h,i,f⟩)=(decide (d=h)&&decide (b=i)&&decide (c=f)):=by
  simp[yK]
 have e:hasB (⟨⟨⟨d,b,c⟩,a⟩,j⟩:wN) (⟨⟨h,i,f⟩,k⟩:bV)=((decide (d=h)&&decide (b=i)&&decide (c=f))&&(decide (a<=k)&&decide (k<a+j))):=by
  rw[<-l];simp only[hasB,n,nX]
 rw[e]
 clear e l m
 cases o:(decide (d=h)&&decide (b=i)&&decide (c=f)) with
 | false=>simp[ai, *,kE,fw,bM]
 | true=>
  by_cases q:a<=k
  ·simp[ai, *,kE,fw,bM]
  ·simp[ai, *,kE,fw,bM]
theorem Ro{x0:AV}{Q:AV->aa->Prop}{l:List iI}(f:Sl 2 (kz l) x0)(v:l.length<4611686018427387904){a:UInt8}{b:UInt32}{r3:Ref}{H:aa}(w:H.get r3=some ⟨2,[.agg [a8 a,ae b]],false,false⟩) :
 ∀(s:List iI)(k:Nat)(i:Int),l.drop k=s->k<=l.length->i=k->(∀y,y=aB (decide ((⟨a,b⟩:iI)∈s))->Q y H) ->
 bF env Tryz.f223 0 hX [(5,aI i),(3,.ptr r3 0 0),(0,x0)] H Q:=by
 intro s
 induction s with
 | nil=>
  rintro k i hs hk rfl hQ
  obtain rfl:=drop_nil hs hk
  refine oN _ _ _ _ _ λg=>?_
  simp[ai, *,ik,f.len]
  all_goals exact hQ _ (by simp)
 | cons t s p=>
  rintro k i hs hk rfl hQ
  obtain⟨t1,t2⟩:=t
  obtain⟨q,x,j,o⟩:=drop_cons hs
  refine oN _ _ _ _ _ λg=>?_
  have u:=IntWalk.i64_in ((k:Int)+1) (by omega)
  have d:((⟨a,b⟩:iI)=⟨t1,t2⟩)=((decide (t1=a)&&decide (t2=b))=true):=by
   rw[eq_iff_iff]
   simp only[iI.mk.injEq,aY,decide_eq_true_eq]
   exact⟨λh=>⟨h.1.symm,h.2.symm⟩,λh=>⟨h.1.symm,h.2.symm⟩⟩
  cases n:(decide (t1=a)&&decide (t2=b)) with
  | true=>
   rw[n]at d
   have c : ∀y,y=aB true->Q y H:=λy e=>hQ y (by rw[e,decide_eq_true (by rw[nB];exact .inl (by rw[d]))])
   clear d hQ
   simp[ai, *,ik,f.len,f.idx,kz,fw,bM]
   all_goals exact c _ rfl
  | false=>
   rw[n]at d
   have m : ¬(⟨a,b⟩:iI)=⟨t1,t2⟩:=by rw[d];simp
   have c : ∀y,y=aB (decide ((⟨a,b⟩:iI)∈s))->Q y H:=λy e=>hQ y (by rw[e];exact congrArg aB (decide_eq_decide.2 ⟨iA _,λh=>(nB.1 h).resolve_left m⟩))
   clear d hQ m
   simp[ai, *,ik,f.len,f.idx,kz,fw,bM]
   exact p (k+1) _ j (by omega) (by simp) c
theorem RJ{x:AV}{l:List iI}(c:Sl 2 (kz l) x)(d:l.length<4611686018427387904)(a:UInt8)(b:UInt32):ak env 223 [x,.agg [a8 a,ae b]]=some (aB (decide (⟨a,b⟩∈l))):=by
 refine an rfl (by kernel_rfl) (xY _ _ _ _ λg=>?_)
 simp[ai, *,qE,c.r]
 exact Ro c d (a:=a) (b:=b) (by simp) l 0 _ rfl (by omega) rfl (λy e=>by simp[e])
def iL(l:List aC)(i:bV)(v:iI):List iI:=(l.filter λo=>ky o i v).map (·.to)
theorem Eb(o:aC)(l:List aC)(i:bV)(v:iI):iL (o :: l) i v=if ky o i v then o.to :: iL l i v else iL l i v:=by
 unfold iL
 rw[Hy]
 split<;>simp_all
theorem Me(l:List aC)(i:bV)(v:iI) : ∀out,wm out l i v=(iL l i v).foldl tB out:=by
 induction l with
 | nil=>intro out;rfl
 | cons o l a=>
  intro out
  show wm (if ky o i v then tB out o.to else out) l i v=_
  rw[a,Eb]
  split<;>rfl
theorem NT(l:List aC)(i:bV)(v:iI):(iL l i v).length<=l.length:=by
 unfold iL;rw[uD];exact PO _ _
theorem LS{l:List (aC × AV)}{x0:AV}(v:Sl 17 (cF l) x0)(S : ∀p∈l,J8 p)(hsp : ∀p∈l,eJ p.1.s=true)(hl:l.length<100000)(d:UInt8)(c:UInt32)(j:UInt8)(f:Int)(E:UInt8)(w:UInt32){r4 r5:Ref}{Q:AV->aa->Prop}
 (V:r4.t=4) (W:r5.t=5) :
 ∀(s:List (aC × AV)) (k:Nat) (i:Int) (acc:List iI) (J:AV) (H:aa),l.drop k=s->k<=l.length->i=k->acc.length<=k->Fr H->H.get r4=some ⟨4,[.agg [a8 d,ae c,a8 j,aI f]],false,false⟩->H.get r5=some ⟨2,[.agg [a8 E,ae w]],false,false⟩->uW [47] 2 (kz acc) H J->(acc=[]->J=ba) ->
 (∀y H',uW [47] 2 (kz (acc++iL (opsOf s) (⟨⟨d,c,j⟩,f⟩:bV) ⟨E,w⟩)) H' y->(acc++iL (opsOf s) (⟨⟨d,c,j⟩,f⟩:bV) ⟨E,w⟩=[]->y=ba)->Q y H') ->
 bF env Tryz.f238 0 eQ [(8,aI i),(0,x0),(7,J),(5,.ptr r5 0 0),(4,.ptr r4 0 0)] H Q:=by
 intro s
 induction s with
 | nil=>
  rintro k i acc J H hs hk rfl ha hF h4 h5 hO hN hQ
  obtain rfl:=drop_nil hs hk
  refine n7 _ _ _ _ _ _ _ λg=>?_
  have M:=hQ J H (by simpa [opsOf,iL] using hO) (by simpa [opsOf,iL] using hN)
  clear hO hQ hN
  simp[ai, *,cM,v.r]
  all_goals exact M
 | cons p s T=>
  rintro k i acc J H hs hk rfl ha hF h4 h5 hO hN hQ
  obtain⟨hlt,hg,I,hg'⟩:=drop_cons hs
  have hp:=S p (by rw[<-hg];exact mq _)
  have R:=hsp p (by rw[<-hg];exact mq _)
  obtain⟨⟨L,⟨N,G,O⟩,P,⟨⟨⟨C,z,u⟩,D⟩,m⟩,⟨⟨F,o,A⟩,B⟩,⟨b,a⟩,al⟩,x⟩:=p
  obtain⟨n,hpl⟩:=hp
  simp only at n hpl R
  have hh:=Vl C z u D m d c j f R
  have e3:=IntWalk.i64_in ((k:Int)+1) (by omega)
  have q:iL (opsOf (((⟨L,⟨N,G,O⟩,P,⟨⟨⟨C,z,u⟩,D⟩,m⟩,⟨⟨F,o,A⟩,B⟩,⟨b,a⟩,al⟩:aC),x) :: s)) (⟨⟨d,c,j⟩,f⟩:bV) ⟨E,w⟩=if ky (⟨L,⟨N,G,O⟩,P,⟨⟨⟨C,z,u⟩,D⟩,m⟩,⟨⟨F,o,A⟩,B⟩,⟨b,a⟩,al⟩:aC) (⟨⟨d,c,j⟩,f⟩:bV) ⟨E,w⟩ then ⟨b,a⟩ :: iL (opsOf s) (⟨⟨d,c,j⟩,f⟩:bV) ⟨E,w⟩ else iL (opsOf s) (⟨⟨d,c,j⟩,f⟩:bV) ⟨E,w⟩:=Eb _ _ _ _
  rw[q]at hQ
  clear q
  refine n7 _ _ _ _ _ _ _ λg=>?_
  cases K:ky (⟨L,⟨N,G,O⟩,P,⟨⟨⟨C,z,u⟩,D⟩,m⟩,⟨⟨F,o,A⟩,B⟩,⟨b,a⟩,al⟩:aC) (⟨⟨d,c,j⟩,f⟩:bV) ⟨E,w⟩ with
  | false=>
   rw[K,if_neg (by decide)]at hQ
   by_cases h3:L=3
   ·subst h3
    cases hb:hasB ⟨⟨⟨C,z,u⟩,D⟩,m⟩ (⟨⟨d,c,j⟩,f⟩:bV) with
    | false=>
     clear K
     simp[ai, *,cM,v.r,v.idx,cF,Aw,n.r]
     exact T (k+1) _ acc J _ I (by omega) (by simp) (by omega) hF h4 h5 hO hN hQ
    | true=>
     have hq:qS ⟨N,G⟩ ⟨E,w⟩=false:=by
      simp only[ky,hb,decide_true,nX,MB]at K;exact K
     clear K
     simp[ai, *,cM,v.r,v.idx,cF,Aw,n.r]
     exact T (k+1) _ acc J _ I (by omega) (by simp) (by omega) hF h4 h5 hO hN hQ
   ·clear K
    simp[ai, *,cM,v.r,v.idx,cF,Aw,n.r]
    exact T (k+1) _ acc J _ I (by omega) (by simp) (by omega) hF h4 h5 hO hN hQ
  | true=>
   rw[K,if_pos rfl]at hQ
   simp only[ky,aY,decide_eq_true_eq,MB]at K
   obtain⟨h3,hb,hq⟩:=K
   subst h3
   have M : ∀y H',uW [47] 2 (kz ((acc++[⟨b,a⟩])++iL (opsOf s) (⟨⟨d,c,j⟩,f⟩:bV) ⟨E,w⟩)) H' y->(((acc++[⟨b,a⟩])++iL (opsOf s) (⟨⟨d,c,j⟩,f⟩:bV) ⟨E,w⟩)=[]->y=ba)->Q y H':=λy H' h hn=>hQ y H' (by simpa using h) (λe=>by simp at e)
   clear hQ hN
   have U:=λX H'=>T (k+1) ((k:Int)+1) (acc++[⟨b,a⟩]) X H' I (by omega) (by simp) (by simp;omega)
   clear T
   have l4:(H.get r4).isSome=true:=by rw[h4];rfl
   have l5:(H.get r5).isSome=true:=by rw[h5];rfl
   rcases hO with ⟨rfl,hz⟩ | ⟨t,gg,ht,rfl,Z⟩
   ·have hz':acc=[]:=by simpa using hz
    subst hz'
    have Y : ∀(x:AV)(H':aa),uW [47] 2 (kz [⟨b,a⟩]) H' x->uW [47] 2 (kz ([]++[⟨b,a⟩])) H' x:=λx H' h=>h
    simp[ai, *,cM,v.r,v.idx,cF,Aw,n.r]
    exact U _ _ (by simp(maxDischargeDepth:=12) [ek, *]) (by simp(maxDischargeDepth:=12) [ek, *]) (by simp(maxDischargeDepth:=12) [ek, *]) (Y _ _ (by simp[kz])) (λh=>by simp at h) M
   ·rw[vS]at ht
    subst ht
    have l6:(H.get ⟨0,47,gg,0⟩).isSome=true:=by rw[Z];rfl
    have n4:r4≠⟨0,47,gg,0⟩:=by rintro rfl;simp at V
    have n5:r5≠⟨0,47,gg,0⟩:=by rintro rfl;simp at W
    have f1:acc.length+1<=17592186044416:=by omega
    have f2:nx 2 8 acc.length true none (some ⟨2,kz acc,true,false⟩) (some [.agg [a8 b,ae a]]):=by
     simp;omega
    simp[ai, *,cM,v.r,v.idx,cF,Aw,n.r]
    exact U _ _ (by simp(maxDischargeDepth:=12) [ek, *]) (by simp(maxDischargeDepth:=12) [ek, *]) (by simp(maxDischargeDepth:=12) [ek, *]) (by simp[kz]) (λh=>by simp at h) M
theorem SZ{l:List (aC × AV)}{x0:AV}(q:Sl 17 (cF l) x0)(f : ∀p∈l,J8 p)(n : ∀p∈l,eJ p.1.s=true)(v:l.length<100000)(c:UInt8)(b:UInt32)(a:UInt8)(d:Int)(i:UInt8)(j:UInt32) :
 ak env 238 [x0,.agg [a8 c,ae b,a8 a,aI d],.agg [a8 i,ae j]]=some (m8 2 (kz (iL (opsOf l) (⟨⟨c,b,a⟩,d⟩:bV) ⟨i,j⟩))):=by
 refine an rfl (by kernel_rfl) (wR _ _ _ _ _ λg=>?_)
 simp[ai, *,pN]
 refine LS q f n v c b a d i j (by rfl) (by rfl) l 0 _ [] _ _ rfl (by omega) rfl (by simp) (by simp(maxDischargeDepth:=12) [CZ, *]) (by simp) (by simp) (.inl ⟨rfl,rfl⟩) (λ_=>rfl) (λy H' h o=>?_)
 rw[w9]at h o
 rcases h with ⟨rfl,u⟩ | ⟨t,gg,w,rfl,k⟩
 ·rw[u];simp[m8]
 ·have m:kz (iL (opsOf l) (⟨⟨c,b,a⟩,d⟩:bV) ⟨i,j⟩)≠[]:=by
   intro e
   rw[Mh]at e
   cases o e
  rw[xp 2 m]
  rw[Oy]at *
  simp[k]
def JJ(out:List iI)(H:aa)(x:AV):Prop :=∃r c,x = .cG r 0 out.length c/\H.get r=some ⟨2,kz out,true,false⟩/\((c=some 1/\out.length=1 /\∃g,r=⟨0,13,g,0⟩)\/(c=none/\1<out.length /\∃g,r=⟨0,37,g,0⟩))
theorem JJ.bQ{out:List iI}{H H':aa}{x:AV}(h:JJ out H x)(f : ∀r b,H.get r=some b->r.t≠36->H'.get r=some b):JJ out H' x:=by
 obtain⟨r,c,e,d,a⟩:=h
 refine⟨r,c,e,f r _ d ?_,a⟩
 rcases a with ⟨_,_,g,rfl⟩ | ⟨_,_,g,rfl⟩<;>simp
theorem VJ{all:List iI}{D:AV}(l:Sl 2 (kz all) D)(K:all.length<100000){Q:AV->aa->Prop} :
 ∀(s:List iI)(k:Nat)(i:Int)(out:List iI)(u:AV)(H:aa),all.drop k=s->k<=all.length->i=k->out.length<=k+1->Fr H->JJ out H u ->
 (∀y H',JJ (s.foldl tB out) H' y->Q y H') ->
 bF env Tryz.f224 0 gD [(9,aI i),(8,D),(7,u)] H Q:=by
 intro s
 induction s with
 | nil=>
  rintro k i out u H hs hk rfl ho hF n hQ
  obtain rfl:=drop_nil hs hk
  refine ri _ _ _ _ _ λg=>?_
  have d:=hQ u H n
  clear n hQ
  simp[ai, *,gE,l.len]
  all_goals exact d
 | cons t s C=>
  rintro k i out u H hs hk rfl ho hF n hQ
  obtain⟨t1,t2⟩:=t
  obtain⟨I,P,z,x⟩:=drop_cons hs
  have J:=IntWalk.i64_in ((k:Int)+1) (by omega)
  have f:=λq m H'=>C (k+1) ((k:Int)+1) q m H' z (by omega) (by simp)
  clear C
  have E:cm (kz all) k 0 2 true=some (.agg [a8 t1,ae t2]):=by simp[kz,x]
  rw[w8]at hQ
  have p:(kz out).length=out.length:=Oy out
  have v : ∀c:Option Nat,out.length<=c.getD out.length->ak env 223 [.cD 2 (kz out) c,.agg [a8 t1,ae t2]]=some (aB (decide ((⟨t1,t2⟩:iI)∈out))):=λc j=>RJ (.inr ⟨c,rfl,by rw[p];exact j⟩) (by omega) t1 t2
  obtain⟨r,c,rfl,B,j⟩:=n
  refine ri _ _ _ _ _ λg=>?_
  have L:out.length+1<=17592186044416:=by omega
  by_cases o:(⟨t1,t2⟩:iI)∈out
  ·have d : ∀y H',JJ (s.foldl tB out) H' y->Q y H':=λy H' h=>hQ y H' (by rw[tB,if_pos o];exact h)
   clear hQ
   have w:ak env 223 [.cD 2 (kz out) c,.agg [a8 t1,ae t2]]=some (aB true):=by
    rw[v c (by rcases j with ⟨rfl,h,_⟩ | ⟨rfl,h,_⟩<;>simp[h]),decide_eq_true o]
   have b:=λH' h=>f out (.cG r 0 out.length c) H' (by omega) h
   clear v f o
   have n:JJ out H (.cG r 0 out.length c):=⟨r,c,rfl,B,j⟩
   simp[ai, *,gE,l.r,l.idx]
   exact b _ hF n d
  ·have d : ∀y H',JJ (s.foldl tB (out++[⟨t1,t2⟩])) H' y->Q y H':=λy H' h=>hQ y H' (by rw[tB,if_neg o];exact h)
   clear hQ
   have w:ak env 223 [.cD 2 (kz out) c,.agg [a8 t1,ae t2]]=some (aB false):=by
    rw[v c (by rcases j with ⟨rfl,h,_⟩ | ⟨rfl,h,_⟩<;>simp[h]),decide_eq_false o]
   clear v o
   have N:(H.get r).isSome=true:=by rw[B];rfl
   have b:=λm H'=>f (out++[⟨t1,t2⟩]) m H' (by simp;omega)
   clear f
   have e : ∀(g:Nat)(H':aa),H'.get ⟨0,37,g,0⟩=some ⟨2,kz out++[.agg [a8 t1,ae t2]],true,false⟩->JJ (out++[⟨t1,t2⟩]) H' (.cG ⟨0,37,g,0⟩ 0 (out.length+1) none):=by
    intro g H' h
    refine⟨_,_,by simp,by rw[h,TF],.inr ⟨rfl,?_,g,rfl⟩⟩
    rcases j with ⟨_,h,_⟩ | ⟨_,h,_⟩<;>simp<;>omega
   rcases j with ⟨rfl,A,G,rfl⟩ | ⟨rfl,A,G,rfl⟩
   ·have M:1<out.length+1:=by omega
    have a:=e (H.gen 0 37)
    clear e
    have F:(kz out).length=1:=by rw[p,A]
    rw[A]at a
    simp[ai, *,gE,l.r,l.idx]
    exact b _ _ (by simp(maxDischargeDepth:=12) [ek, *]) (a _ (by simp)) d
   ·have O:nx 2 8 out.length true none (some ⟨2,kz out,true,false⟩) (some [.agg [a8 t1,ae t2]]):=by
     simp;omega
    have a:=e (H.gen 0 37)
    clear e
    simp[ai, *,gE,l.r,l.idx]
    exact b _ _ (by simp(maxDischargeDepth:=12) [ek, *]) (a _ (by simp)) d
theorem Md(l:List aC)(i:bV)(v:iI):(iL l i v).foldl tB [Pu i]=qm l i v:=(Me l i v _).symm
theorem agr{l:List (aC × AV)}{x0:AV}(u:Sl 17 (cF l) x0)(k : ∀p∈l,J8 p)(q : ∀p∈l,eJ p.1.s=true)(z:l.length<100000)(b:UInt8)(a:UInt32)(d:UInt8)(f:Int)(m:UInt8)(n:UInt32) :
 ak env 224 [x0,.agg [a8 b,ae a,a8 d,aI f],.agg [a8 m,ae n]]=some (.cD 2 (kz (qm (opsOf l) (⟨⟨b,a,d⟩,f⟩:bV) ⟨m,n⟩)) (Jw (qm (opsOf l) (⟨⟨b,a,d⟩,f⟩:bV) ⟨m,n⟩))):=by
 refine an rfl (by kernel_rfl) (Bf _ _ _ _ _ λg=>?_)
 have C:=SZ u k q z b a d f m n
 have v:=NT (opsOf l) (⟨⟨b,a,d⟩,f⟩:bV) ⟨m,n⟩
 rw[show(opsOf l).length=l.length from uD _]at v
 have t:=pr 2 (kz (iL (opsOf l) (⟨⟨b,a,d⟩,f⟩:bV) ⟨m,n⟩))
 rw[<-Md]
 have i:=λ(A:AV)(H:aa)(Q:AV->aa->Prop)=>VJ t (by omega) (Q:=Q) (iL (opsOf l) (⟨⟨b,a,d⟩,f⟩:bV) ⟨m,n⟩) 0 0 [Pu (⟨⟨b,a,d⟩,f⟩:bV)] A H rfl (by omega) rfl (by simp)
 clear q k
 have o : ∀H:aa,H.get ⟨0,13,0,0⟩=some ⟨2,[.agg [a8 b,ae a]],true,false⟩->JJ [Pu (⟨⟨b,a,d⟩,f⟩:bV)] H (.cG ⟨0,13,0,0⟩ 0 1 (some 1)):=λH h=>⟨_,_,rfl,h,.inl ⟨rfl,rfl,0,rfl⟩⟩
 generalize iL (opsOf l) (⟨⟨b,a,d⟩,f⟩:bV) ⟨m,n⟩=al at *
 generalize m8 2 (kz al)=xo at *
 have j : ∀y H',JJ (al.foldl tB [Pu (⟨⟨b,a,d⟩,f⟩:bV)]) H' y->view H'.get 8 y=some (.cD 2 (kz (al.foldl tB [Pu (⟨⟨b,a,d⟩,f⟩:bV)])) (Jw (al.foldl tB [Pu (⟨⟨b,a,d⟩,f⟩:bV)]))):=by
  intro y H' h
  obtain⟨r,c,rfl,x,w⟩:=h
  have e:c=Jw (al.foldl tB [Pu (⟨⟨b,a,d⟩,f⟩:bV)]):=by
   rcases w with ⟨rfl,h,_⟩ | ⟨rfl,h,_⟩
   ·rw[Jw,if_pos h]
   ·rw[Jw,if_neg (by omega)]
  rw[<-e]
  simp[x]
 generalize (al.foldl tB [Pu (⟨⟨b,a,d⟩,f⟩:bV)])=fin at i j ⊢
 rcases t with ⟨rfl,B⟩ | ⟨c,rfl,w⟩
 ·simp[ai, *,nW,u.r]
  exact i _ _ _ (by simp(maxDischargeDepth:=12) [ek, *]) (o _ (by simp)) j
 ·simp[ai, *,nW,u.r]
  exact i _ _ _ (by simp(maxDischargeDepth:=12) [ek, *]) (o _ (by simp)) j
def fg(s:wN):Nat->Nat->List bV
 | 0,_=>[]
 | n+1,k=>⟨s.f.h,s.f.n+(k:Int)⟩ :: fg s n (k+1)
def WY(i:bV):AV := .agg [a8 i.h.lv,ae i.h.cats,a8 i.h.num,aI i.n]
def mv(l:List bV):List AV:=l.map WY
@[simp] theorem zB(l:List bV):(mv l).length=l.length:=by simp[mv]
theorem Gi(s:wN) : ∀n k,(fg s n k).length=n:=by
 intro n
 induction n with
 | zero=>intro k;rfl
 | succ n a=>intro k;simp[fg,a]
theorem Tk(d:UInt8)(f:UInt32)(c:UInt8)(b:Int)(j:Int)(O : -4611686018427387904<b)(K:b<4611686018427387904)(G:j<100000){r1:Ref}(z:r1.t=1){Q:AV->aa->Prop} :
 ∀(n k:Nat)(i:Int)(a:List bV)(x3:AV)(H:aa),(k:Int)+n=j->i=k->a.length=k->Fr H->H.get r1=some ⟨5,[.agg [a8 d,ae f,a8 c,aI b,aI j]],false,false⟩->uW [22] 4 (mv a) H x3->(a=[]->x3=ba) ->
 (∀y H',uW [22] 4 (mv (a++fg (⟨⟨⟨d,f,c⟩,b⟩,j⟩:wN) n k)) H' y->(a++fg (⟨⟨⟨d,f,c⟩,b⟩,j⟩:wN) n k=[]->y=ba)->Q y H') ->
 bF env Tryz.f196 0 jv [(4,aI i),(1,.ptr r1 0 0),(3,x3)] H Q:=by
 intro n
 induction n with
 | zero=>
  rintro k i a x3 H hk rfl ha hF hB hO hN hQ
  refine p9 _ _ _ _ _ λg=>?_
  have A : ¬(k:Int)<j:=by omega
  have p:=hQ x3 H (by simpa [fg] using hO) (by simpa [fg] using hN)
  clear hQ hO hN
  simp[ai, *,jz]
  all_goals exact p
 | succ n C=>
  rintro k i a x3 H hk rfl ha hF hB hO hN hQ
  refine p9 _ _ _ _ _ λg=>?_
  have A:(k:Int)<j:=by omega
  have J:=IntWalk.i64_in ((k:Int)+1) (by omega)
  have I:=IntWalk.i64_in (b+(k:Int)) (by omega)
  have v:=λx H'=>C (k+1) ((k:Int)+1) (a++[⟨⟨d,f,c⟩,b+(k:Int)⟩]) x H' (by omega) (by simp) (by simp;omega)
  clear C
  have p : ∀y H',uW [22] 4 (mv ((a++[⟨⟨d,f,c⟩,b+(k:Int)⟩])++fg (⟨⟨⟨d,f,c⟩,b⟩,j⟩:wN) n (k+1))) H' y->(((a++[⟨⟨d,f,c⟩,b+(k:Int)⟩])++fg (⟨⟨⟨d,f,c⟩,b⟩,j⟩:wN) n (k+1))=[]->y=ba)->Q y H':=λy H' h L=>hQ y H' (by simpa [fg] using h) (λe=>by simp[fg]at e)
  clear hQ hN
  have o : ∀(g m:Nat)(H':aa),m=k+1->H'.get ⟨0,22,g,0⟩=some ⟨4,mv a++[.agg [a8 d,ae f,a8 c,aI (b+(k:Int))]],true,false⟩->uW [22] 4 (mv (a++[⟨⟨d,f,c⟩,b+(k:Int)⟩])) H' (.cG ⟨0,22,g,0⟩ 0 m none):=by
   intro g m H' E h
   subst E
   exact .inr ⟨22,g,by simp,by simp[ha],by rw[h];simp[mv,WY]⟩
  rcases hO with ⟨rfl,F⟩ | ⟨t,gg,D,rfl,w⟩
  ·have B:a=[]:=by simpa [mv] using F
   subst B
   have l:=o (H.gen 0 22) 1
   clear o
   simp[ai, *,jz]
   exact v _ _ (by simp(maxDischargeDepth:=12) [ek, *]) (by simp(maxDischargeDepth:=12) [ek, *]) (l _ (by simp at ha;omega) (by simp[mv])) (λe=>by simp at e) p
  ·rw[vS]at D
   subst D
   have M:(H.get ⟨0,22,gg,0⟩).isSome=true:=by rw[w];rfl
   have P:(H.get r1).isSome=true:=by rw[hB];rfl
   have n1:r1≠⟨0,22,gg,0⟩:=by rintro rfl;simp at z
   have N:nx 4 24 a.length true none (some ⟨4,mv a,true,false⟩) (some [.agg [a8 d,ae f,a8 c,aI (b+(k:Int))]]):=by
    simp;omega
   have l:=o (H.gen 0 22) (a.length+1)
   clear o
   have u:a.length+1=k+1:=by rw[ha]
   have q:=λH'=>l H' u
   clear ha l u
   simp[ai, *,jz]
   exact v _ _ (by simp(maxDischargeDepth:=12) [ek, *]) (by simp(maxDischargeDepth:=12) [ek, *]) (q _ (by simp)) (λe=>by simp at e) p
theorem Vh(f:UInt8)(c:UInt32)(d:UInt8)(b:Int)(a:Int)(n:eJ (⟨⟨⟨f,c,d⟩,b⟩,a⟩:wN)=true):ak env 196 [.agg [a8 f,ae c,a8 d,aI b,aI a]]=some (m8 4 (mv (fg (⟨⟨⟨f,c,d⟩,b⟩,a⟩:wN) a.toNat 0))):=by
 refine an rfl (by kernel_rfl) (z9 _ _ _ λg=>?_)
 have l:=gI n
 simp only at l
 simp[ai, *,tj]
 refine Tk f c d b a (by omega) (by omega) (by omega) (by rfl) a.toNat 0 _ [] _ _ (by omega) rfl rfl (by simp(maxDischargeDepth:=12) [CZ, *]) (by simp) (.inl ⟨rfl,rfl⟩) (λ_=>rfl) (λy H' h k=>?_)
 rw[w9]at h k
 rcases h with ⟨rfl,m⟩ | ⟨t,gg,o,rfl,i⟩
 ·rw[m];simp[m8]
 ·have j:mv (fg (⟨⟨⟨f,c,d⟩,b⟩,a⟩:wN) a.toNat 0)≠[]:=by
   intro e
   have:fg (⟨⟨⟨f,c,d⟩,b⟩,a⟩:wN) a.toNat 0=[]:=by simpa [mv] using e
   cases k this
  rw[xp 4 j]
  rw[zB]at *
  simp[i]
theorem OE(l:List aC)(o:aC) : ∀n k,((fg o.s n k).all λi=>decide (MB o∈qm l i (MB o)))=qz l o n k:=by
 intro n
 induction n with
 | zero=>intro k;rfl
 | succ n a=>intro k;rw[fg,Br,a,qz]
theorem LV{l:List (aC × AV)}{x0:AV}(F:Sl 17 (cF l) x0)(w : ∀p∈l,J8 p)(O : ∀p∈l,eJ p.1.s=true)(W:l.length<100000)(M:UInt8)(b:UInt8)(a:UInt32)(G:UInt8)(P:Int)(K:UInt8)(I:UInt32)(E:UInt8)(N:Int)(v:Int)(A:UInt8)(o:UInt32)(q:UInt8)(u:Int)(m:UInt8)(j:UInt32){x:AV}{h:List bV}{R:AV}(z:Sl 4 (mv h) R)(U:h.length<100000){r3:Ref}{H:aa}
 (hB:H.get r3=some ⟨17,[.agg [a8 M,a8 b,ae a,a8 G,aI P,a8 K,ae I,a8 E,aI N,aI v,a8 A,ae o,a8 q,aI u,a8 m,ae j,x]],false,false⟩) {Q:AV->aa->Prop} :
 ∀(s:List bV)(k:Nat)(i:Int),h.drop k=s->k<=h.length->i=k ->
 (∀y,y=aB ((s.all λi=>decide ((⟨b,a⟩:iI)∈qm (opsOf l) i ⟨b,a⟩))&&qS ⟨b,a⟩ ⟨m,j⟩)->Q y H) ->
 bF env Tryz.f200 0 gk [(6,aI i),(3,.ptr r3 0 0),(5,R),(0,x0)] H Q:=by
 intro s
 induction s with
 | nil=>
  rintro k i hs hk rfl hQ
  obtain rfl:=drop_nil hs hk
  refine nD _ _ _ _ _ _ λg=>?_
  simp[ai, *,gm,z.len]
  all_goals exact hQ _ (by simp)
 | cons t s S=>
  rintro k i hs hk rfl hQ
  obtain⟨⟨d,c,f⟩,e⟩:=t
  obtain⟨X,Y,J,L⟩:=drop_cons hs
  have Z:=IntWalk.i64_in ((k:Int)+1) (by omega)
  have h1:=agr F w O W d c f e b a
  have D:=KQ (opsOf l) (⟨⟨d,c,f⟩,e⟩:bV) ⟨b,a⟩
  rw[show(opsOf l).length=l.length from uD _]at D
  have T:=RJ (Sj (qm (opsOf l) (⟨⟨d,c,f⟩,e⟩:bV) ⟨b,a⟩)) (by omega) b a
  have V:cm (mv h) k 0 4 true=some (.agg [a8 d,ae c,a8 f,aI e]):=by simp[mv,WY,L]
  rw[Br]at hQ
  have n:=S (k+1) _ J (by omega) rfl
  clear S D
  refine nD _ _ _ _ _ _ λg=>?_
  by_cases C:(⟨b,a⟩:iI)∈qm (opsOf l) (⟨⟨d,c,f⟩,e⟩:bV) ⟨b,a⟩
  ·rw[decide_eq_true C]at hQ T
   rw[nX]at hQ
   clear C
   generalize qm (opsOf l) (⟨⟨d,c,f⟩,e⟩:bV) ⟨b,a⟩=D at *
   have B:=n hQ
   clear n hQ
   simp[ai, *,gm,z.r,z.idx,F.r]
   exact B
  ·rw[decide_eq_false C]at hQ T
   rw[yM,yM]at hQ
   clear C n
   generalize qm (opsOf l) (⟨⟨d,c,f⟩,e⟩:bV) ⟨b,a⟩=D at *
   simp[ai, *,gm,z.r,z.idx,F.r]
   all_goals exact hQ _ rfl
theorem SX{l:List (aC × AV)}{x0:AV}(F:Sl 17 (cF l) x0)(z : ∀p∈l,J8 p)(B : ∀p∈l,eJ p.1.s=true)(M:l.length<100000)(y:UInt8)(u:UInt8)(t:UInt32)(w:UInt8)(v:Int)(b:UInt8)(h:UInt32)(d:UInt8)(f:Int)(a:Int)(o:UInt8)(n:UInt32)(q:UInt8)(m:Int)(k:UInt8)(j:UInt32){al:List Int}{x:AV}(A:Sl 1 (rows al) x)(L:eJ ⟨⟨⟨b,h,d⟩,f⟩,a⟩=true) :
 ak env 200 [x0,.agg [a8 y,a8 u,ae t,a8 w,aI v,a8 b,ae h,a8 d,aI f,aI a,a8 o,ae n,a8 q,aI m,a8 k,ae j,x]]=some (aB (kZ (opsOf l) (⟨y,⟨u,t,w⟩,v,⟨⟨⟨b,h,d⟩,f⟩,a⟩,⟨⟨o,n,q⟩,m⟩,⟨k,j⟩,al⟩:aC))):=by
 refine an rfl (by kernel_rfl) (vX _ _ _ _ λg=>?_)
 by_cases J:y=3
 ·subst J
  have O:=Vh b h d f a L
  have G:=gI L
  simp only at G
  have D:=Gi ⟨⟨⟨b,h,d⟩,f⟩,a⟩ a.toNat 0
  have C:=pr 4 (mv (fg ⟨⟨⟨b,h,d⟩,f⟩,a⟩ a.toNat 0))
  have K:kZ (opsOf l) (⟨3,⟨u,t,w⟩,v,⟨⟨⟨b,h,d⟩,f⟩,a⟩,⟨⟨o,n,q⟩,m⟩,⟨k,j⟩,al⟩:aC)=(((fg ⟨⟨⟨b,h,d⟩,f⟩,a⟩ a.toNat 0).all λi=>decide ((⟨u,t⟩:iI)∈qm (opsOf l) i ⟨u,t⟩))&&qS ⟨u,t⟩ ⟨k,j⟩):=by
   rw[OO _ _ rfl,Bool.and_comm]
   congr 1
   exact(OE (opsOf l) ⟨3,⟨u,t,w⟩,v,⟨⟨⟨b,h,d⟩,f⟩,a⟩,⟨⟨o,n,q⟩,m⟩,⟨k,j⟩,al⟩ a.toNat 0).symm
  rw[K]
  have E:(fg ⟨⟨⟨b,h,d⟩,f⟩,a⟩ a.toNat 0).length<100000:=by omega
  clear K D G
  generalize fg ⟨⟨⟨b,h,d⟩,f⟩,a⟩ a.toNat 0=ids at *
  generalize m8 4 (mv ids)=xo at *
  have I:=λ(r3:Ref)(H:aa) hB Q=>LV F z B M 3 u t w v b h d f a o n q m k j (x:=x) C E (r3:=r3) (H:=H) hB (Q:=Q) ids 0 0 rfl (by omega) rfl
  clear z B
  rcases C with ⟨rfl,G⟩ | ⟨c,rfl,N⟩
  ·simp[ai, *,il,F.r,A.r]
  ·simp[ai, *,il,F.r,A.r]
 ·have e:kZ (opsOf l) (⟨y,⟨u,t,w⟩,v,⟨⟨⟨b,h,d⟩,f⟩,a⟩,⟨⟨o,n,q⟩,m⟩,⟨k,j⟩,al⟩:aC)=true:=by unfold kZ;rw[if_neg J]
  simp[ai, *,il,A.r]
end
section
attribute [local simp] aG ay aw aF aE bQ gX aM aA aD bI bH bn aN aj bf fe
def qR(l:List Int):Prop :=∀a∈l, -2147483648<=a/\a<=2147483647
theorem Su(i:bV):decide (i=rZ)=gx i:=by
 rw[Hd,decide_eq_true_eq,yI]
@[simp] theorem ad2(h:UInt8)(i:UInt32)(a:UInt8)(n:Int):ak env 222 [.agg [a8 h,ae i,a8 a,aI n]]=some (aB (gx (⟨⟨h,i,a⟩,n⟩:bV))):=by
 refine an rfl (by kernel_rfl) (yY _ _ _ λg=>?_)
 simp[ai, *,rK,gx,fw,bM]
section
variable(k:UInt8)(d:UInt32)(e:UInt8)(c:Int)(o:Int)(f:UInt8)(j:UInt32)(b:UInt8)(m:Int){x:AV}{l:List Int}(p:Sl 1 (rows l) x)(t:l.length<1000000)(q:qR l)
include p t
theorem Vn(q:qR l):ak env 198 [.agg [a8 k,ae d,a8 e,aI c,aI o,a8 f,ae j,a8 b,aI m,x]]=some (aB (zh (⟨⟨⟨⟨k,d,e⟩,c⟩,o⟩,⟨⟨f,j,b⟩,m⟩,l⟩:Rn))):=by
 have w:=KA p (by omega) q
 have a:=Ch l
 unfold zh
 simp only[Su]
 refine an rfl (by kernel_rfl) (zY _ _ _ λg=>?_)
 cases u:eJ (⟨⟨⟨k,d,e⟩,c⟩,o⟩:wN) with
 | false=>simp[ai, *,fD,p.r]
 | true=>
  by_cases n:(l.length:Int)=o
  ·subst n
   cases i:LU l with
   | false=>
    have h : ¬Cr l=0:=by rw[a,i];decide
    clear a
    simp[ai, *,fD,p.r]
   | true=>
    have h:Cr l=0:=a.2 i
    clear a
    cases y:gx (⟨⟨f,j,b⟩,m⟩:bV) with
    | true=>simp[ai, *,fD,p.r]
    | false=>cases v:FB (⟨⟨f,j,b⟩,m⟩:bV)<;>simp[ai, *,fD,p.r]
  ·clear a
   simp[ai, *,fD,p.r]
end
@[simp] theorem RM(k:UInt8)(d:UInt32)(e:UInt8)(c:Int)(o:Int)(f:UInt8)(j:UInt32)(b:UInt8)(m:Int)(n:Int){x:AV}{l:List Int}(p:Sl 1 (rows l) x):ak env 236 [.agg [a8 k,ae d,a8 e,aI c,aI o,a8 f,ae j,a8 b,aI m,x],aI n]=some (.agg [a8 k,ae d,a8 e,aI (IntKind.i64.wrap (c+n))]):=by
 refine an rfl (by kernel_rfl) (Bg _ _ _ _ λg=>?_)
 simp[ai, *,tM,p.r]
@[simp] theorem NC(k:UInt8)(d:UInt32)(e:UInt8)(c:Int)(o:Int)(f:UInt8)(j:UInt32)(b:UInt8)(m:Int)(n:Int){x:AV}{l:List Int}(p:Sl 1 (rows l) x)(i:0<=n)(u:n<1000000):ak env 237 [.agg [a8 k,ae d,a8 e,aI c,aI o,a8 f,ae j,a8 b,aI m,x],aI n] =
 some (if n=0 then .agg [a8 f,ae j,a8 b,aI m] else .agg [a8 k,ae d,a8 e,aI (IntKind.i64.wrap (c+(n - 1)))]):=by
 have h:=RM k d e c o f j b m (n - 1) p
 have w:=IntWalk.i64_in (n - 1) (by omega)
 refine an rfl (by kernel_rfl) (wS _ _ _ _ λg=>?_)
 by_cases a:n=0
 ·subst a
  simp[ai, *,lC,p.r]
 ·simp[ai, *,lC,p.r]
end
section
attribute [local simp] aG ay aw aF aE bQ gX aM aA aD bI bH bn aN aj bf fe OB
def TJ(P:Program)(t:TypeId):Bool:=match P.underlying t with
 | some (.interface _)=>false
 | some _=>true
 | none=>false
theorem Fo{P:Program}{t:TypeId}(h:TJ P t=true)(x:AV):tX P t (some x)=some (.ifc t x,[]):=by
 unfold TJ at h
 unfold tX
 cases a:P.underlying t with
 | none=>rw[a]at h;cases h
 | some d=>rw[a]at h;cases d<;>first | rfl | cases h
theorem C8{P:Program}{t c:TypeId}(h:TJ P c=true)(y:AV)(ok:Bool):uv P (some (.ifc t y)) c ok=(if t=c then some ((if ok then .tup [y,.v (.bool true)] else y),[]) else if ok then (eI P c).map λz=>(.tup [z,.v (.bool false)],[]) else none):=by
 unfold TJ at h
 unfold uv
 cases a:P.underlying c with
 | none=>rw[a]at h;cases h
 | some d=>rw[a]at h;cases d<;>first | rfl | cases h
@[simp] theorem ahf:TJ env.P 25=true:=by kernel_rfl
@[simp] theorem ahg:TJ env.P 42=true:=by kernel_rfl
attribute [local simp] Fo C8
section
variable{k j:AV}{us:List Clear}{qs:List ah}{gr:Int}(a:Sl 3 (bR us) k)(b:Sl 5 (bL qs) j)(f:qs.length * 32<=140737488355328)(i:us.length * 12<=140737488355328)
include a b f i
theorem U7(d:Int)(v:UInt8)(c:UInt32)(ok:Bool)(y:0<=d)(o:d<us.length)(z:gr≠0) : ∃m,Sl 5 (bL qs) m /\
 ak env 203 [.agg [k,j,aI gr],.agg [aI d,a8 v,ae c,aB ok]]=some (.ifc 25 (.agg [.cD 3 (bR (us.set d.toNat ⟨v,c,ok⟩)) none,m,aI (IntKind.i64.wrap (gr - 1))])):=by
 have w:=RN (gr:=gr) a b f i
 obtain⟨u,rfl,_⟩:=a.YU (by intro e;have:=congrArg List.length e;simp at this;subst this;simp at o;omega)
 have l:bR us≠[]:=by intro e;have:=congrArg List.length e;simp at this;subst this;simp at o;omega
 rw[rE 3 u l]at w
 have t:=wD b
 generalize sM j=m at *
 have x:iJ (bR us) d.toNat 0 [a8 v,ae c,aB ok]=some (bR (us.set d.toNat ⟨v,c,ok⟩)):=by
  have n:d.toNat<us.length:=by omega
  simp[F1,fj n,Clear.enc,E0]
 have p:(bR us).length=us.length:=by simp
 have q : ¬(us.length:Int)<=d:=by omega
 rcases t with ⟨rfl,h⟩ | rfl | ⟨rfl,h⟩
 ·refine⟨ba,.inl ⟨rfl,h⟩,?_⟩
  refine an rfl (by kernel_rfl) (oK _ _ _ _ λg=>?_)
  simp[ai, *,mQ,b.r,aw]
 ·refine⟨.cD 5 (bL qs) none,Sl.mk _ _,?_⟩
  refine an rfl (by kernel_rfl) (oK _ _ _ _ λg=>?_)
  simp[ai, *,mQ,b.r,aw]
 ·refine⟨.cD 5 [] (some 0),.inr ⟨some 0,by rw[h],by rw[h];simp⟩,?_⟩
  refine an rfl (by kernel_rfl) (oK _ _ _ _ λg=>?_)
  simp[ai, *,mQ,b.r,aw]
theorem SR(d:Int)(v:UInt8)(c:UInt32)(ok:Bool)(h:(us.length:Int)<=d):ak env 203 [.agg [k,j,aI gr],.agg [aI d,a8 v,ae c,aB ok]]=some (.ifc 42 (aI 2)):=by
 refine an rfl (by kernel_rfl) (oK _ _ _ _ λg=>?_)
 have e:(bR us).length=us.length:=by simp
 simp[ai, *,mQ,a.r,b.r]
theorem SQ(d:Int)(v:UInt8)(c:UInt32)(ok:Bool)(l : ¬(us.length:Int)<=d)(h:gr=0):ak env 203 [.agg [k,j,aI gr],.agg [aI d,a8 v,ae c,aB ok]]=some (.ifc 42 (aI 9)):=by
 subst h
 refine an rfl (by kernel_rfl) (oK _ _ _ _ λg=>?_)
 have e:(bR us).length=us.length:=by simp
 simp[ai, *,mQ,a.r,b.r]
end
def yx(us:List Clear)(qs:List ah)(gr:Int)(d:Int)(v:UInt8)(c:UInt32)(ok:Bool):Int:=
 if tY us qs gr&&yn d v c ok then (if (us.length:Int)<=d then 2 else if gr=0 then 9 else 0) else 8
section
variable{k j:AV}{us:List Clear}{qs:List ah}{gr:Int}(a:Sl 3 (bR us) k)(b:Sl 5 (bL qs) j)(f:qs.length * 32<=140737488355328)(i:us.length * 12<=140737488355328)
include a b f i
theorem S7(d:Int)(v:UInt8)(c:UInt32)(ok:Bool)(h:yx us qs gr d v c ok≠0):ak env 152 [.agg [k,j,aI gr],.agg [aI d,a8 v,ae c,aB ok]]=some (.tup [.agg [ba,ba,aI 0],aI (yx us qs gr d v c ok)]):=by
 have q:=D6 (gr:=gr) a b (by omega) (by omega)
 have p:=NG d v c ok
 refine an rfl (by kernel_rfl) (Bw _ _ _ _ λg=>?_)
 unfold yx at h ⊢
 cases hm:tY us qs gr with
 | false=>
  cases n:yn d v c ok<;>simp[ai, *,mR,a.r,b.r,bad]
 | true=>
  cases n:yn d v c ok with
  | false=>simp[ai, *,mR,a.r,b.r,bad]
  | true=>
   rw[hm,n]at h
   simp only[Bool.and_self,if_true]at h ⊢
   by_cases l:(us.length:Int)<=d
   ·have o:=SR (gr:=gr) a b f i d v c ok l
    simp[ai, *,mR,a.r,b.r,bad]
   ·have m:gr=0:=Decidable.by_contra λe=>h (by rw[if_neg l,if_neg e])
    have o:=SQ (gr:=gr) a b f i d v c ok l m
    subst m
    simp[ai, *,mR,a.r,b.r,bad]
theorem NH(d:Int)(v:UInt8)(c:UInt32)(ok:Bool)(h:yx us qs gr d v c ok=0) : ∃n,Sl 5 (bL qs) n /\
 ak env 152 [.agg [k,j,aI gr],.agg [aI d,a8 v,ae c,aB ok]]=some (.tup [.agg [.cD 3 (bR (us.set d.toNat ⟨v,c,ok⟩)) none,n,aI (IntKind.i64.wrap (gr - 1))],aI 0]):=by
 have t:=D6 (gr:=gr) a b (by omega) (by omega)
 have p:=NG d v c ok
 unfold yx at h
 split at h
 ·rename_i l
  rw[aY]at l
  obtain⟨l,o⟩:=l
  split at h
  ·cases h
  ·rename_i w
   split at h
   ·cases h
   ·rename_i q
    have e:=o
    simp only[yn,aY,decide_eq_true_eq]at e
    obtain⟨n,m,u⟩:=U7 (gr:=gr) a b f i d v c ok e.1.1 (by omega) q
    refine⟨n,m,?_⟩
    clear e h
    refine an rfl (by kernel_rfl) (Bw _ _ _ _ λg=>?_)
    rw[l]at t
    rw[o]at p
    clear l o
    generalize us.set d.toNat ⟨v,c,ok⟩=us' at *
    simp[ai, *,mR,a.r,b.r,m.r,bad]
 ·cases h
end
end
section
attribute [local simp] aG ay aw aF aE bQ gX aM aA aD bI bH bn aN aj bf fe
attribute [local simp] LN
@[simp] theorem Yc(a:Int)(v:UInt8)(c:UInt32)(ok:Bool):ak env 156 [.agg [aI a,a8 v,ae c,aB ok]]=some (aB (decide (0<=a)&&decide (a<8)&&o8 v c ok)):=by
 refine an rfl (by kernel_rfl) (z3 _ _ _ λg=>?_)
 simp[ai, *,s8]
 repeat' ((first | apply iV<;>intro h | apply fZ<;>intro h | apply ga<;>intro h | apply fX<;>intro h | apply fY<;>intro h)<;>(try simp only[decide_eq_true_eq,decide_eq_false_iff_not,dN,kG,aY,fv]at h)<;>(try simp[ai, *]))
def DC(z:Nat):List AV->AV
 | []=>ba
 | es => .cD z es none
@[simp] theorem ado(z:Nat):DC z []=ba:=id rfl
theorem Nh(z:Nat){es:List AV}(h:es≠[]):DC z es = .cD z es none:=by
 cases es with
 | nil=>exact absurd rfl h
 | cons a l=>rfl
theorem HQ(z:Nat)(es:List AV):Sl z es (DC z es):=by
 by_cases h:es=[]
 ·subst h;exact .inl ⟨rfl,rfl⟩
 ·rw[Nh z h];exact .inr ⟨none,rfl,by simp⟩
def nw(us:List Clear)(gr a:Int):Int:=if (us.length:Int)<=a then 2 else if gr=0 then 9 else 0
section
variable{m j:AV}{us:List Clear}{qs:List ah}{gr:Int}(f:Sl 3 (bR us) m)(d:Sl 5 (bL qs) j)(i:qs.length<1000)(n:us.length<1000)
include f d i n
theorem KD(a:Int)(v:UInt8)(c:UInt32)(ok:Bool)(h:nw us gr a≠0) :
 ak env 157 [.agg [m,j,aI gr],.agg [aI a,a8 v,ae c,aB ok]]=some (.tup [.agg [m,j,aI gr],aI (nw us gr a)]):=by
 unfold nw at *
 refine an rfl (by kernel_rfl) (lB _ _ _ _ λg=>?_)
 have e:(bR us).length=us.length:=by simp
 by_cases k:(us.length:Int)<=a
 ·clear h
  simp[ai, *,fM,f.r,d.r]
 ·by_cases b:gr=0
  ·subst b
   clear h
   simp[ai, *,fM,f.r,d.r]
  ·rw[if_neg k,if_neg b]at h
   exact absurd rfl h
theorem KE(a:Int)(v:UInt8)(c:UInt32)(ok:Bool)(y:0<=a)(h:nw us gr a=0) :
 ak env 157 [.agg [m,j,aI gr],.agg [aI a,a8 v,ae c,aB ok]]=some (.tup [.agg [.cD 3 (bR (us.set a.toNat ⟨v,c,ok⟩)) none,DC 5 (bL qs),aI (IntKind.i64.wrap (gr - 1))],aI 0]):=by
 have p:=Yb (gr:=gr) f d (by omega) (by omega)
 unfold nw at h
 split at h
 ·cases h
 ·rename_i u
  split at h
  ·cases h
  ·rename_i w
   clear h
   have x:iJ (bR us) a.toNat 0 [a8 v,ae c,aB ok]=some (bR (us.set a.toNat ⟨v,c,ok⟩)):=by
    have l:a.toNat<us.length:=by omega
    simp[F1,fj l,Clear.enc,E0]
   have q:(bR us).length=us.length:=by simp
   have k:bR us≠[]:=by intro e;have:=congrArg List.length e;simp at this;subst this;simp at u;omega
   have b:(bR (us.set a.toNat ⟨v,c,ok⟩)).length=us.length:=by simp
   rw[Ap 3 k]at p
   generalize bR (us.set a.toNat ⟨v,c,ok⟩)=es at *
   have t:a<us.length:=by omega
   by_cases o:qs=[]
   ·subst o
    refine an rfl (by kernel_rfl) (lB _ _ _ _ λg=>?_)
    simp[ai, *,fM,f.r,d.r]
   ·have n2:bL qs≠[]:=by simpa using o
    rw[Ap 5 n2]at p
    rw[Nh 5 n2]
    refine an rfl (by kernel_rfl) (lB _ _ _ _ λg=>?_)
    simp[ai, *,fM,f.r,d.r]
end
section
variable{m j:AV}{us:List Clear}{qs:List ah}{gr:Int}(f:Sl 3 (bR us) m)(d:Sl 5 (bL qs) j)(i:qs.length<1000000)
include f d i
theorem Te{a:UInt8}{b:UInt32}{r1 r2 r3:Ref}(E:r1≠r3/\r2≠r3){Q:AV->aa->Prop} : ∀(s:List ah)(k:Nat)(H:aa)(z:ah),qs.drop k=s->k<=qs.length->H.get r1=some ⟨3,[.agg [m,j,aI gr]],false,false⟩->H.get r2=some ⟨2,[.agg [a8 a,ae b]],false,false⟩ ->
 H.get r3=some ⟨5,[.agg z.enc],false,false⟩->(∀H' y,y=AV.agg (RV a b (s.find? (xA a b))).enc->Q y H')->bF env Tryz.f143 0 jM [(4,.ptr r3 0 0),(5,aI k),(2,.ptr r1 0 0),(3,.ptr r2 0 0)] H Q:=by
 intro s
 induction s with
 | nil=>
  rintro k H z hs hk h1 h2 h3 hQ
  obtain rfl:=drop_nil hs hk
  have x:=λH'=>hQ H' _ rfl
  simp only[List.find?_nil,QI,ah.enc]at x
  have p:(bL qs).length=qs.length:=by simp
  simp only[ah.enc]at h3
  refine rj _ _ _ _ _ _ λg=>?_
  clear hQ
  simp[ai, *,mV,d.r,aa.get_put]
 | cons q s B=>
  rintro k H z hs hk h1 h2 h3 hQ
  obtain⟨w,D,u,o⟩:=drop_cons hs
  have C:=IntWalk.i64_in ((k:Int)+1) (by omega)
  have p:(bL qs).length=qs.length:=by simp
  have l:cm (bL qs) k 0 5 true=some (.agg q.enc):=by simp[bL,o,ah.enc]
  have v:cm (bL qs) k 0 2 true=some (.agg [a8 q.lv,ae q.cats]):=by simp[cm,bL,o,ah.enc]
  have c:=λ(h:xA a b q=true) H'=>hQ H' _ (by rw[List.find?_cons_of_pos h])
  have t:=λ(h : ¬xA a b q=true)=>B (k+1) H z u (by omega) h1 h2 h3 (λH' y e=>hQ H' y (by rw[List.find?_cons_of_neg h];exact e))
  rw[show((k+1:Nat):Int)=(k:Int)+1 from by omega]at t
  simp only[ah.enc,QH]at c l h3
  have A:(k:Int)<qs.length:=by omega
  generalize bL qs=eq at *
  clear B hQ hs u D o
  refine rj _ _ _ _ _ _ λg=>?_
  simp[ai, *,mV,d.r,d.idx,w,p,l,v,fw,bM]
  refine iV (λh=>?_) (λh=>?_)
  ·simp[d.r,d.idx,w,p,l,aa.get_put,h1,h2,h3]
   exact c (by simpa [xA] using h) _
  ·simp[C]
   exact t (by simpa [xA] using h)
theorem LP(a:UInt8)(b:UInt32):ak env 143 [.agg [m,j,aI gr],.agg [a8 a,ae b]]=some (.agg (la qs a b).enc):=by
 refine an rfl (by kernel_rfl) (Bh _ _ _ _ λg=>?_)
 simp[ai, *,tN,f.r,d.r]
 refine Te (gr:=gr) (a:=a) (b:=b) (r1:=⟨0,2,0,0⟩) (r2:=⟨0,3,0,0⟩) (r3:=⟨0,4,0,0⟩) f d i ⟨by simp,by simp⟩ qs 0 _ ⟨0,0,0,0,0⟩ rfl (by omega) ?_ ?_ ?_ (λH' y e=>?_)
 ·simp
 ·simp
 ·simp[ah.enc]
 ·subst e
  simp[la,ah.enc]
end
end
end Go.Proofs.YtmkmimgokagimaaGreat
namespace Go.Proofs.YtmkmimgokagimaaGreat
open Go.Ab Go.ChangeShapes Go.WideShapes Go.RowKit
theorem VK:Pv env.P 62 (λp:bW × AV=>Sl 1 (rows p.1.op.l) p.2/\qR p.1.op.l) akc:=by
 intro n xs h
 have h:=mE (P:=env.P) OR h
 obtain⟨m,v,r1,rfl,f,y,r2,rfl,e,x3,r3,rfl,b,x,r4,rfl,i,w,r5,rfl,a,rfl⟩:=h
 obtain⟨k,_,rfl⟩:=RP (P:=env.P) (t:=5) (by simp) _ _ f
 obtain⟨u,_,rfl⟩:=sn (P:=env.P) (t:=3) (by simp) _ _ e
 obtain⟨q,d,rfl⟩:=NO _ _ b
 obtain⟨c,_,rfl⟩:=sn (P:=env.P) (t:=42) (by simp) _ _ i
 have j:=mE (P:=env.P) OS a
 obtain⟨m,o,s1,rfl,i1,A,s2,rfl,i2,rfl⟩:=j
 obtain⟨g,_,rfl⟩:=sn (P:=env.P) (t:=3) (by simp) _ _ i1
 obtain⟨z,_,rfl⟩:=Yo _ _ i2
 exact⟨(⟨k,u,q.1,c,g,z.1,z.2.1,z.2.2⟩,q.2),d,rfl⟩
theorem U0{n:Nat}{x:AV}(h:Ui env.P n 26 x) : ∃(l:List (bW × AV)),(∀p∈l,Sl 1 (rows p.1.op.l) p.2/\qR p.1.op.l)/\Sl 24 (bu l) x:=by
 obtain⟨l,z,a,e,s⟩:=D2 (P:=env.P) UM UI XZ VK (h.cell (by simp))
 cases e
 exact⟨l,a,s⟩
end Go.Proofs.YtmkmimgokagimaaGreat
namespace Go.Proofs.YtmkmimgokagimaaGreat
open Go.Ab
section
attribute [local simp] aG ay aw aF aE bQ gX aM aA aD bI bH bn aN aj bf fe
structure wO where
 o:Bool
 u:Int
 s:Int
structure wX where
 opens:Int
 ops:Int
 cells:Int
def wO.av(s:wO):AV := .agg [aB s.o,aI s.u,aI s.s]
def wX.av(u:wX):AV := .agg [a8 0,ae 0,aI u.opens,aI u.ops,aI u.cells]
def gN:Option AV->wO
 | some (.agg [.v (.bool o),.v (.int _ u),.v (.int _ s)])=>⟨o,u,s⟩
 | _=>⟨false,0,0⟩
def pT:Option AV->wX
 | some (.agg [_,_,.v (.int _ x),.v (.int _ y),.v (.int _ z)])=>⟨x,y,z⟩
 | _=>⟨0,0,0⟩
@[simp] theorem Cd(s:wO):gN (some s.av)=s:=by cases s;rfl
@[simp] theorem GR(u:wX):pT (some u.av)=u:=by cases u;rfl
def U2(l:List (mz × AV)):Prop :=∀p∈l,∃s:wO,p.2=s.av
def UF(l:List (iI × AV)):Prop :=∀p∈l,∃u:wX,p.2=u.av
theorem look_ok{K:Type}[DecidableEq K]{P:AV->Prop} : ∀ {l:List (K × AV)} (h : ∀p∈l,P p.2) (k:K),aV k l=none \/∃x,aV k l=some x/\P x
 | [],_,_ => .inl rfl
 | p :: l,h,k=>by
  unfold aV
  split
  ·exact .inr ⟨p.2,rfl,h p jB⟩
  ·exact look_ok (λq c=>h q (iA _ c)) k
theorem D3{K:Type}[DecidableEq K]{P:AV->Prop}{k:K}{x:AV}(c:P x) : ∀ {l:List (K × AV)} (h : ∀p∈l,P p.2),∀p∈gw k x l,P p.2
 | [],_=>by intro p hp;simp[gw]at hp;rw[hp];exact c
 | q :: l,h=>by
  intro p hp
  unfold gw at hp
  split at hp
  ·rcases nB.1 hp with rfl | hp
   ·exact c
   ·exact h p (iA _ hp)
  ·rcases nB.1 hp with rfl | hp
   ·exact h _ jB
   ·exact D3 c (λp hp=>h p (iA _ hp)) p hp
theorem U1{l:List (mz × AV)}(h:U2 l)(k:mz):(aV k l).getD (.agg [aB false,aI 0,aI 0])=(gN (aV k l)).av:=by
 rcases look_ok (P:=λx =>∃s:wO,x=s.av) h k with e | ⟨x,e,s,rfl⟩
 ·rw[e];rfl
 ·rw[e,Cd];rfl
theorem UE{l:List (iI × AV)}(h:UF l)(k:iI):(aV k l).getD (.agg [a8 0,ae 0,aI 0,aI 0,aI 0])=(pT (aV k l)).av:=by
 rcases look_ok (P:=λx =>∃u:wX,x=u.av) h k with e | ⟨x,e,u,rfl⟩
 ·rw[e];rfl
 ·rw[e,GR];rfl
def jV(z:Nat)(es:List AV)(H:aa)(x y:AV):Prop:=(x=y/\Sl z es y) \/∃r c,x = .cG r 0 es.length c/\H.get r=some ⟨z,es,true,true⟩/\y = .cD z es c/\es.length<=c.getD es.length
theorem jV.s{z:Nat}{es:List AV}{H:aa}{x y:AV}(h:jV z es H x y):kO z es H x y:=by
 rcases h with h | ⟨r,c,k,e,g,l⟩
 ·exact .inl h
 ·exact .inr ⟨r,c,true,k,e,g,l⟩
theorem jV.refs{z:Nat}{es:List AV}{H:aa}{x y:AV}(h:jV z es H x y)(n:Nat):kB H.get (ao H.get (n+1) x)=true:=by
 rcases h with ⟨rfl,h⟩ | ⟨r,c,rfl,e,rfl,g⟩
 ·rw[h.refs];rfl
 ·simp[e]
theorem jV.of{z:Nat}{es:List AV}{x:AV}(h:Sl z es x)(H:aa):jV z es H x x := .inl ⟨rfl,h⟩
structure eH where
 us:List Clear
 gr:Int
 ses:List (mz × AV)
 used:List (iI × AV)
 da:List (aC × AV)
structure q0 (b:eH):Prop where
 ses:U2 b.ses
 used:UF b.used
 da : ∀p∈b.da,J8 p/\p.1.l.length<1000000
 many:b.da.length<10000
 few:b.us.length<1000000
structure FQ (H:aa) (rb:Ref) (us0:List Clear) (qs:List ah) (gr0:Int) (b:eH):Prop where
 box : ∃xu xq yu yq wu wq xr rs ru xh vh,H.get rb=some ⟨10,[.agg [xu,xq,aI gr0,yu,yq,aI b.gr,xr,.mp rs,.mp ru,xh]],false,false⟩/\Sl 3 (bR us0) xu/\Sl 5 (bL qs) xq/\jV 3 (bR b.us) H yu wu/\jV 5 (bL qs) H yq wq /\
  H.get rs=some (bg (cB Bn b.ses))/\H.get ru=some (bg (cB zr b.used))/\kO 17 (cF b.da) H xh vh/\xr.cells=[xr]/\xr.one=true
theorem jV.grow{z:Nat}{es:List AV}{H H':aa}{x y:AV}(h:jV z es H x y)(g:bE H H'):jV z es H' x y:=by
 rcases h with h | ⟨r,c,rfl,e,rfl,k⟩
 ·exact .inl h
 ·exact .inr ⟨r,c,rfl,g.old _ _ e,rfl,k⟩
theorem kO.grow{z:Nat}{es:List AV}{H H':aa}{x y:AV}(h:kO z es H x y)(g:bE H H'):kO z es H' x y:=by
 rcases h with h | ⟨r,c,fz,rfl,e,rfl,k⟩
 ·exact .inl h
 ·exact .inr ⟨r,c,fz,rfl,g.old _ _ e,rfl,k⟩
theorem FQ.grow{H H':aa}{rb:Ref}{us0:List Clear}{qs:List ah}{gr0:Int}{b:eH}(h:FQ H rb us0 qs gr0 b)(g:bE H H'):FQ H' rb us0 qs gr0 b:=by
 obtain⟨m,l,v,n,t,o,B,rs,ru,x,p,y,q,k,z,e,A,c,w,u⟩:=h.box
 exact⟨m,l,v,n,t,o,B,rs,ru,x,p,g.old _ _ y,q,k,jV.grow z g,jV.grow e g,g.old _ _ A,g.old _ _ c,kO.grow w g,u⟩
theorem Iw{g:cX}{rs:Ref}{l:List (mz × AV)}(d:U2 l)(c:g rs=some (bg (cB Bn l)))(h:mz):ff env.P g 126 (some (.mp rs)) (some (.agg [a8 h.lv,ae h.cats,a8 h.num])) false=some ((gN (aV h l)).av,[]):=by
 have e:=BG Mj Jd (t:=126) (et:=73) (by kernel_rfl) (z := .agg [aB false,aI 0,aI 0]) (by kernel_rfl) c h false
 rw[U1 d]at e
 exact e
theorem Ff{g:cX}{ru:Ref}{l:List (iI × AV)}(d:UF l)(c:g ru=some (bg (cB zr l)))(v:iI):ff env.P g 127 (some (.mp ru)) (some (.agg [a8 v.lv,ae v.cats])) false=some ((pT (aV v l)).av,[]):=by
 have e:=BG Mi I5 (t:=127) (et:=81) (by kernel_rfl) (z := .agg [a8 0,ae 0,aI 0,aI 0,aI 0]) (by kernel_rfl) c v false
 rw[UE d]at e
 exact e
section
variable(dep:Nat){H:aa}(f:Fr H){rb:Ref}{us0:List Clear}{qs:List ah}{gr0:Int}{b:eH}(d:FQ H rb us0 qs gr0 b)(a:q0 b)(j:us0.length<1000000)(i:qs.length<1000000)
include f d a j i
theorem left_at(e:UInt8)(k:UInt32) : ∃H',bD env dep (.fn 146) [.ptr rb 0 0,.agg [a8 e,ae k]] H =
 some (.tup [aB (decide ((pT (aV ⟨e,k⟩ b.used)).opens<(kT us0 qs gr0 e k).opens)),aB (decide ((pT (aV ⟨e,k⟩ b.used)).ops<(kT us0 qs gr0 e k).ops))],H')/\bE H H':=by
 refine eX (fn:=Tryz.f146) (c:=rV) (by kernel_rfl) (by kernel_rfl) (by kernel_rfl) (by kernel_rfl) (by kernel_rfl) ?_
 refine rS _ _ _ _ _ λg=>?_
 obtain⟨F,E,S,K,P,L,X,rs,ru,T,N,y,o,m,t,l,V,w,p,R⟩:=d.box
 have O:=LQ (gr:=gr0) o m (by omega) (by omega) e k
 have U:(H.get rb).isSome=true:=by rw[y];rfl
 have M:(H.get ru).isSome=true:=by rw[w];rfl
 have x:=λ(H':aa)(h:H'.get ru=some (bg (cB zr b.used)))=>Ff (g:=H'.get) a.used h ⟨e,k⟩
 have D:=t.s.cells
 have B:=l.s.cells
 have I:=p.cells
 generalize kT us0 qs gr0 e k=q at *
 generalize pT (aV ⟨e,k⟩ b.used)=u at *
 obtain⟨q1,q2,A,Q,J⟩:=q
 obtain⟨C,G,W⟩:=u
 have v : ∀b1 b2 b3:bw,bE H ((⟨dep+1,8,H.gen (dep+1) 8,0⟩,some b3) :: (⟨dep+1,6,H.gen (dep+1) 6,0⟩,some b2) :: (⟨dep+1,3,H.gen (dep+1) 3,0⟩,some b1) :: H):=λb1 b2 b3=>⟨by simp(maxDischargeDepth:=12) [ek, *],λq c n=>by
  have z:(H.get q).isSome=true:=by rw[n];rfl
  simp[dH f z,n]⟩
 clear d t l p a
 simp[ai, *,lz,o.r,m.r,ah.enc,wX.av]
def nV(b:eH)(qs:List ah)(c:Int)(e:UInt8)(g:UInt32):Bool:=decide (oU b.us qs b.gr e=0)&&eL b.us c e g
theorem Wn(e:Int)(h:UInt8)(l:UInt32) : ∃H',bD env dep (.fn 147) [.ptr rb 0 0,aI e,.agg [a8 h,ae l]] H=some (aB (nV b qs e h l),H')/\bE H H':=by
 refine eX (fn:=Tryz.f147) (c:=sO) (by kernel_rfl) (by kernel_rfl) (by kernel_rfl) (by kernel_rfl) (by kernel_rfl) ?_
 refine si _ _ _ _ _ _ λg=>?_
 obtain⟨B,z,L,E,J,F,D,rs,ru,M,I,v,o,n,m,k,O,x,p,K⟩:=d.box
 have u:=Vq (gr:=b.gr) m.s.sl k.s.sl (by omega) (by have:=a.few;omega) e h l
 have N:(H.get rb).isSome=true:=by rw[v];rfl
 have y:=λb1=>(m.s.cons f (dep+1) 5 (some b1)).r
 have w:=λb1=>(k.s.cons f (dep+1) 5 (some b1)).r
 have A:=m.s.cells
 have G:=k.s.cells
 have C:=p.cells
 have t:=bE.refl f
 have q : ∀b1:bw,bE H ((⟨dep+1,5,H.gen (dep+1) 5,0⟩,some b1) :: H):=λb1=>bE.cons f _ _ _
 unfold nV
 clear d m k p a
 generalize eL b.us e h l=ob at *
 by_cases hp:oU b.us qs b.gr h=0
 ·rw[hp]at u
  cases ob<;>simp[ai, *,ir,o.r,n.r,hp]
 ·cases ob<;>simp[ai, *,ir,o.r,n.r,hp]
def iS(us0:List Clear)(qs:List ah)(gr0:Int)(b:eH)(o:aC):Int:=
 if nH b.da o≠0 then nH b.da o else if o.kind=1/\(kT us0 qs gr0 o.h.lv o.h.cats).cells<IntKind.i64.wrap ((pT (aV ⟨o.h.lv,o.h.cats⟩ b.used)).cells+o.s.many) then 9 else 0
theorem HR(y:UInt8)(m:UInt8)(k:UInt32)(A:UInt8)(E:Int)(C:UInt8)(B:UInt32)(z:UInt8)(D:Int)(l:Int)(w:UInt8)(n:UInt32)(p:UInt8)(v:Int)(t:UInt8)(o:UInt32){x:AV}{al:List Int}(F:Sl 1 (rows al) x)(L:al.length<1000000) : ∃H',bD env dep (.fn 72) [.ptr rb 0 0,.agg [a8 y,a8 m,ae k,a8 A,aI E,a8 C,ae B,a8 z,aI D,aI l,a8 w,ae n,a8 p,aI v,a8 t,ae o,x]] H=some (aI (iS us0 qs gr0 b (⟨y,⟨m,k,A⟩,E,⟨⟨⟨C,B,z⟩,D⟩,l⟩,⟨⟨w,n,p⟩,v⟩,⟨t,o⟩,al⟩:aC)),H')/\bE H H':=by
 refine eX (fn:=Tryz.f72) (c:=pV) (by kernel_rfl) (by kernel_rfl) (by kernel_rfl) (by kernel_rfl) (by kernel_rfl) ?_
 refine pR _ _ _ _ _ λg=>?_
 obtain⟨xu,xq,yu,yq,wu,wq,xr,rs,ru,xh,vh,V,I,G,O,M,h6,S,J,h9⟩:=d.box
 have hQ:=LQ (gr:=gr0) I G (by omega) (by omega) m k
 have hD:=S8 J.sl a.da a.many y m k A E C B z D l w n p v t o F L
 have l1:(H.get rb).isSome=true:=by rw[V];rfl
 have l7:(H.get ru).isSome=true:=by rw[S];rfl
 have R:=λ(H':aa)(h:H'.get ru=some (bg (cB zr b.used)))=>Ff (g:=H'.get) a.used h ⟨m,k⟩
 have c4:=O.s.cells
 have Z:=M.s.cells
 have c8:=λb1=>(J.cons f (dep+1) 3 (some b1)).r
 have d8:=J.cells
 have T:=bE.refl f
 have K : ∀b1:bw,bE H ((⟨dep+1,3,H.gen (dep+1) 3,0⟩,some b1) :: H):=λb1=>bE.cons f _ _ _
 have P : ∀b1 b2:bw,bE H ((⟨dep+1,6,H.gen (dep+1) 6,0⟩,some b2) :: (⟨dep+1,3,H.gen (dep+1) 3,0⟩,some b1) :: H):=λb1 b2=>⟨by simp(maxDischargeDepth:=12) [ek, *],λq c N=>by
  have W:(H.get q).isSome=true:=by rw[N];rfl
  simp[dH f W,N]⟩
 unfold iS
 simp only
 generalize kT us0 qs gr0 m k=q at *
 generalize pT (aV ⟨m,k⟩ b.used)=u at *
 generalize nH b.da (⟨y,⟨m,k,A⟩,E,⟨⟨⟨C,B,z⟩,D⟩,l⟩,⟨⟨w,n,p⟩,v⟩,⟨t,o⟩,al⟩:aC)=e at *
 obtain⟨q1,q2,Y,q4,U⟩:=q
 obtain⟨u1,u2,X⟩:=u
 clear d O M J a
 by_cases he:e=0
 ·by_cases Q:y=1
  ·subst Q
   by_cases hc:U<IntKind.i64.wrap (X+l)
   ·simp[ai, *,cL,I.r,G.r,F.r,ah.enc,wX.av]
   ·simp[ai, *,cL,I.r,G.r,F.r,ah.enc,wX.av]
  ·simp[ai, *,cL,I.r,G.r,F.r,ah.enc,wX.av]
 ·simp[ai, *,cL,I.r,G.r,F.r,ah.enc,wX.av]
end
end
section
attribute [local simp] aG ay aw aF aE bQ gX aM aA aD bI bH bn aN aj bf fe
theorem CR(g:cX)(a b:List Ref):kB g (a++b)=(kB g a&&kB g b):=by
 unfold kB;rw[List.all_append]
theorem KX{f:FuncId}(g:(env.mode f == 2)=true){dep:Nat}{H:aa}{args:List AV}{y:AV}(h : ∃H',bD env dep (.fn f) args H=some (y,H')/\bE H H')(n:flat depth y=true)(r:Ref) :
 nI env true (ak env) (bD env dep) H r (some (.fn (.func f) [] [])) args=some (y,H):=by
 obtain⟨H',k,c⟩:=h
 have a:env.mode f=2:=by simpa using g
 have e:([]++args++[]:List AV)=args:=by simp
 have o:env.sm.f H H'=true:=OI c.old
 simp only[nI,kJ,nC,if_pos a,e,k,na,GN,FV,cond_true]
 show re true env.sm H (some (y,H'))=_
 simp only[re,n,o,Bool.or_true,C1,if_true]
@[simp] theorem agC(y:AV):sv AV.undef y=true:=id rfl
def ld(b:eH)(o:aC):wO:=gN (aV o.h b.ses)
def lJ(b:eH)(o:aC):wX:=pT (aV ⟨o.h.lv,o.h.cats⟩ b.used)
def Gl(us0:List Clear)(qs:List ah)(gr0:Int)(b:eH)(r:bW):Bool:=
 !(ld b r.op).o&&(nV b qs r.user r.op.h.lv r.op.h.cats&&decide ((lJ b r.op).opens<(kT us0 qs gr0 r.op.h.lv r.op.h.cats).opens))
def CO(us0:List Clear)(qs:List ah)(gr0:Int)(b:eH)(r:bW):Bool:=
 (ld b r.op).o&&(nV b qs (ld b r.op).u r.op.h.lv r.op.h.cats&&(decide (r.op.serial=IntKind.i64.wrap ((ld b r.op).s+1))&&(decide ((lJ b r.op).ops<(kT us0 qs gr0 r.op.h.lv r.op.h.cats).ops)&&decide (r.code=iS us0 qs gr0 b r.op))))
def Gk(qs:List ah)(b:eH)(r:bW):Bool:=decide (yx b.us qs b.gr r.gu r.gv r.gc r.gok=0)
section
variable(dep:Nat){H:aa}(m:Fr H){rb:Ref}{us0:List Clear}{qs:List ah}{gr0:Int}{b:eH}(l:FQ H rb us0 qs gr0 b)(d:q0 b)(j:us0.length<1000000)(i:qs.length<1000000)
include m l d j i
theorem acp(k:UInt8)(u:Int)(F:UInt8)(e:UInt8)(a:UInt32)(n:UInt8)(I:Int)(D:UInt8)(C:UInt32)(B:UInt8)(G:Int)(y:Int)(z:UInt8)(f:UInt32)(p:UInt8)(t:Int)(q:UInt8)(h:UInt32)(c M:Int)(v:UInt8)(w:UInt32)(o:Bool){x:AV}{al:List Int}(N:Sl 1 (rows al) x) :
 ∃H',bD env dep (.fn 145) [.ptr rb 0 0,.agg [a8 k,aI u,a8 F,a8 e,ae a,a8 n,aI I,a8 D,ae C,a8 B,aI G,aI y,a8 z,ae f,a8 p,aI t,a8 q,ae h,x,aI c,aI M,a8 v,ae w,aB o]] H=some (aB (Gl us0 qs gr0 b ⟨k,u,(⟨F,⟨e,a,n⟩,I,⟨⟨⟨D,C,B⟩,G⟩,y⟩,⟨⟨z,f,p⟩,t⟩,⟨q,h⟩,al⟩:aC),c,M,v,w,o⟩),H')/\bE H H':=by
 refine eX (fn:=Tryz.f145) (c:=EL) (by kernel_rfl) (by kernel_rfl) (by kernel_rfl) (by kernel_rfl) (by kernel_rfl) ?_
 refine DJ _ _ _ _ _ λg=>?_
 have E : ∀b1:bw,bE H ((⟨dep+1,3,H.gen (dep+1) 3,0⟩,some b1) :: H):=λb1=>bE.cons m _ _ _
 have Z:=left_at (dep+1) (E ⟨24,[.agg [a8 k,aI u,a8 F,a8 e,ae a,a8 n,aI I,a8 D,ae C,a8 B,aI G,aI y,a8 z,ae f,a8 p,aI t,a8 q,ae h,x,aI c,aI M,a8 v,ae w,aB o]],false,false⟩).fr (l.grow (E _)) d j i e a
 simp[ai, *,xJ,N.r]
 refine nk (by kernel_rfl) Z λH2 R=>?_
 have A:=(E _).trans R
 have L:=R.old ⟨dep+1,3,H.gen (dep+1) 3,0⟩ _ (by simp;rfl)
 have J:=l.grow A
 obtain⟨xu,xq,yu,yq,wu,wq,xr,rs,ru,xh,vh,W,V,S,h4,X,h6,h7,h8,h9⟩:=J.box
 have K:=Iw (g:=H2.get) d.ses h6 ⟨e,a,n⟩
 have Y:=Wn (dep+1) A.fr J d j i u e a
 have T:=h4.s.cells
 have Q:=X.s.cells
 have U:=h8.cells
 unfold Gl ld lJ
 simp only
 generalize nV b qs u e a=mn at *
 generalize decide ((pT (aV ⟨e,a⟩ b.used)).opens<(kT us0 qs gr0 e a).opens)=lo at *
 generalize gN (aV ⟨e,a,n⟩ b.ses)=ss at *
 obtain⟨s1,s2,s3⟩:=ss
 cases s1 with
 | true=>simp[L,W,K,N.r,T,Q,U,V.r,S.r,wO.av,A]
 | false=>
  simp[L,W,K,N.r,T,Q,U,V.r,S.r,wO.av]
  refine nk (by kernel_rfl) Y λH3 O=>?_
  have P:=A.trans O
  cases mn<;>simp[P]
theorem acn(k:UInt8)(u:Int)(I:UInt8)(e:UInt8)(a:UInt32)(B:UInt8)(D:Int)(G:UInt8)(F:UInt32)(E:UInt8)(J:Int)(z:Int)(A:UInt8)(f:UInt32)(p:UInt8)(y:Int)(t:UInt8)(n:UInt32)(c U:Int)(v:UInt8)(w:UInt32)(o:Bool){x:AV}{al:List Int}(K:Sl 1 (rows al) x)(R:al.length<1000000) :
 ∃H',bD env dep (.fn 149) [.ptr rb 0 0,.agg [a8 k,aI u,a8 I,a8 e,ae a,a8 B,aI D,a8 G,ae F,a8 E,aI J,aI z,a8 A,ae f,a8 p,aI y,a8 t,ae n,x,aI c,aI U,a8 v,ae w,aB o]] H=some (aB (CO us0 qs gr0 b ⟨k,u,(⟨I,⟨e,a,B⟩,D,⟨⟨⟨G,F,E⟩,J⟩,z⟩,⟨⟨A,f,p⟩,y⟩,⟨t,n⟩,al⟩:aC),c,U,v,w,o⟩),H')/\bE H H':=by
 refine eX (fn:=Tryz.f149) (c:=EJ) (by kernel_rfl) (by kernel_rfl) (by kernel_rfl) (by kernel_rfl) (by kernel_rfl) ?_
 refine DG _ _ _ _ _ λg=>?_
 have L : ∀b1 b2:bw,bE H ((⟨dep+1,5,H.gen (dep+1) 5,0⟩,some b2) :: (⟨dep+1,3,H.gen (dep+1) 3,0⟩,some b1) :: H):=λb1 b2=>⟨by simp(maxDischargeDepth:=12) [ek, *],λq c T=>by
  have lq:(H.get q).isSome=true:=by rw[T];rfl
  simp[dH m lq,T]⟩
 obtain⟨xu,xq,yu,yq,wu,wq,xr,rs,ru,xh,vh,Z,h2,h3,X,S,Y,h7,W,h9⟩:=l.box
 have l1:(H.get rb).isSome=true:=by rw[Z];rfl
 have l6:(H.get rs).isSome=true:=by rw[Y];rfl
 have c4:=X.s.cells
 have c5:=S.s.cells
 have c8:=W.cells
 have O:=λ(H':aa)(h:H'.get rs=some (bg (cB Bn b.ses)))=>Iw (g:=H'.get) d.ses h ⟨e,a,B⟩
 unfold CO ld lJ
 simp only
 generalize hss:gN (aV ⟨e,a,B⟩ b.ses)=ss at *
 obtain⟨s1,s2,s3⟩:=ss
 simp[ai, *,xH,K.r,Z,Y,O,wO.av]
 refine nk (by kernel_rfl) (left_at (dep+1) (L _ _).fr (l.grow (L _ _)) d j i _ _) λH4 N=>?_
 have C:=(L _ _).trans N
 have b3:=N.old ⟨dep+1,3,H.gen (dep+1) 3,0⟩ _ (by simp;rfl)
 have P:=N.old ⟨dep+1,5,H.gen (dep+1) 5,0⟩ _ (by simp;rfl)
 have M:=l.grow C
 have Q:=KX (by kernel_rfl) (Wn (dep+1) N.fr M d j i s2 e a) rfl
 have hV:=KX (by kernel_rfl) (HR (dep+1) N.fr M d j i I e a B D G F E J z A f p y t n K R) rfl
 generalize nV b qs s2 e a=mn at *
 generalize decide ((pT (aV ⟨e,a⟩ b.used)).opens<(kT us0 qs gr0 e a).opens)=lo at *
 generalize decide ((pT (aV ⟨e,a⟩ b.used)).ops<(kT us0 qs gr0 e a).ops)=lp at *
 generalize iS us0 qs gr0 b (⟨I,⟨e,a,B⟩,D,⟨⟨⟨G,F,E⟩,J⟩,z⟩,⟨⟨A,f,p⟩,y⟩,⟨t,n⟩,al⟩:aC)=ve at *
 have hH4:=N.fr
 clear l M X S W d O
 cases s1 with
 | false=>simp[b3,P,K.r,ny,C]
 | true=>
 cases mn with
 | false=>simp[b3,P,K.r,ny,Q,C]
 | true=>
 by_cases V:D=IntKind.i64.wrap (s3+1)
 ·subst V
  cases lp with
  | false=>simp[b3,P,K.r,ny,Q,C]
  | true=>simp[b3,P,K.r,ny,Q,hV,C]
 ·simp[b3,P,K.r,ny,Q,V,C]
theorem ack(k:UInt8)(u:Int)(D:UInt8)(G:UInt8)(z:UInt32)(A:UInt8)(F:Int)(C:UInt8)(B:UInt32)(y:UInt8)(E:Int)(p:Int)(t:UInt8)(a:UInt32)(f:UInt8)(n:Int)(h:UInt8)(e:UInt32)(c J:Int)(v:UInt8)(w:UInt32)(o:Bool){x:AV}{al:List Int}(O:Sl 1 (rows al) x) :
 ∃H',bD env dep (.fn 151) [.ptr rb 0 0,.agg [a8 k,aI u,a8 D,a8 G,ae z,a8 A,aI F,a8 C,ae B,a8 y,aI E,aI p,a8 t,ae a,a8 f,aI n,a8 h,ae e,x,aI c,aI J,a8 v,ae w,aB o]] H=some (aB (Gk qs b ⟨k,u,(⟨D,⟨G,z,A⟩,F,⟨⟨⟨C,B,y⟩,E⟩,p⟩,⟨⟨t,a,f⟩,n⟩,⟨h,e⟩,al⟩:aC),c,J,v,w,o⟩),H')/\bE H H':=by
 refine eX (fn:=Tryz.f151) (c:=EI) (by kernel_rfl) (by kernel_rfl) (by kernel_rfl) (by kernel_rfl) (by kernel_rfl) ?_
 refine DF _ _ _ _ _ λg=>?_
 obtain⟨xu,xq,yu,yq,wu,wq,xr,rs,ru,xh,vh,W,R,Q,K,I,h6,h7,L,h9⟩:=l.box
 have l1:(H.get rb).isSome=true:=by rw[W];rfl
 have c4:=λb1=>(K.s.cons m (dep+1) 3 (some b1)).r
 have Y:=λb1=>(I.s.cons m (dep+1) 3 (some b1)).r
 have d4:=K.s.cells
 have d5:=I.s.cells
 have d8:=L.cells
 have T : ∀b1 b2:bw,bE H ((⟨dep+1,5,H.gen (dep+1) 5,0⟩,some b2) :: (⟨dep+1,3,H.gen (dep+1) 3,0⟩,some b1) :: H):=λb1 b2=>⟨by simp(maxDischargeDepth:=12) [ek, *],λq c N=>by
  have X:(H.get q).isSome=true:=by rw[N];rfl
  simp[dH m X,N]⟩
 unfold Gk
 simp only
 have S:=d.few
 by_cases P:yx b.us qs b.gr J v w o=0
 ·obtain⟨Z,M,U⟩:=NH (gr:=b.gr) K.s.sl I.s.sl (by omega) (by omega) J v w o P
  have z4:=(jV.grow K (bE.cons m (dep+1) 3 ⟨24,[.agg [a8 k,aI u,a8 D,a8 G,ae z,a8 A,aI F,a8 C,ae B,a8 y,aI E,aI p,a8 t,ae a,a8 f,aI n,a8 h,ae e,x,aI c,aI J,a8 v,ae w,aB o]],false,false⟩)).refs 6
  have z5:=(jV.grow I (bE.cons m (dep+1) 3 ⟨24,[.agg [a8 k,aI u,a8 D,a8 G,ae z,a8 A,aI F,a8 C,ae B,a8 y,aI E,aI p,a8 t,ae a,a8 f,aI n,a8 h,ae e,x,aI c,aI J,a8 v,ae w,aB o]],false,false⟩)).refs 6
  have V:=M.r
  clear l K I L d
  simp[ai, *,sX,O.r,R.r,Q.r,CR]
  done
 ·have U:=S7 (gr:=b.gr) K.s.sl I.s.sl (by omega) (by omega) J v w o P
  clear l K I L d
  simp[ai, *,sX,O.r,R.r,Q.r]
end
end
section
attribute [local simp] aG ay aw aF aE bQ gX aM aA aD bI bH bn aN aj bf fe
structure jk (H:aa) (rb rs ru:Ref) (a i:AV) (us0:List Clear) (qs:List ah) (gr0:Int) (b:eH):Prop where
 box : ∃xu xq yu yq wu wq,H.get rb=some ⟨10,[.agg [xu,xq,aI gr0,yu,yq,aI b.gr,i,.mp rs,.mp ru,a]],false,false⟩/\Sl 3 (bR us0) xu/\Sl 5 (bL qs) xq/\jV 3 (bR b.us) H yu wu/\jV 5 (bL qs) H yq wq
 ses:H.get rs=some (bg (cB Bn b.ses))
 use:H.get ru=some (bg (cB zr b.used))
 da:Own 17 (cF b.da) H a
 one:i.cells=[i]/\i.one=true
 sep:rb≠rs/\rb≠ru/\rs≠ru/\a.at?≠some rb/\a.at?≠some rs/\a.at?≠some ru
 t43 : ∀r,a.at?=some r->r.t=43
theorem nP{z:Nat}{es:List AV}{H:aa}{x:AV}(h:Own z es H x) : ∃y,kO z es H x y:=by
 rcases h with ⟨rfl,rfl⟩ | ⟨r,rfl,c⟩
 ·exact⟨ba,.inl ⟨rfl,.inl ⟨rfl,rfl⟩⟩⟩
 ·exact⟨_,.inr ⟨r,none,false,rfl,c,rfl,de _⟩⟩
theorem jk.at{H:aa}{rb rs ru:Ref}{a i:AV}{us0:List Clear}{qs:List ah}{gr0:Int}{b:eH}(h:jk H rb rs ru a i us0 qs gr0 b):FQ H rb us0 qs gr0 b:=by
 obtain⟨g,f,q,k,p,l,t,o,e,u,c⟩:=h.box
 obtain⟨n,v⟩:=nP h.da
 exact⟨g,f,q,k,p,l,i,rs,ru,a,n,t,o,e,u,c,h.ses,h.use,v,h.one⟩
structure Ss (H H':aa) (rb rs ru:Ref) (a xh':AV):Prop where
 fr:Fr H'
 old : ∀q c,H.get q=some c->q≠rb->q≠rs->q≠ru->a.at?≠some q->H'.get q=some c/\xh'.at?≠some q
theorem jV.bQ{z:Nat}{es:List AV}{H H':aa}{x y:AV}(h:jV z es H x y)(g : ∀q c,H.get q=some c->c.kq=true->H'.get q=some c):jV z es H' x y:=by
 rcases h with h | ⟨r,c,rfl,e,rfl,f⟩
 ·exact .inl h
 ·exact .inr ⟨r,c,rfl,g _ _ e rfl,rfl,f⟩
theorem jk.upd{H H':aa}{rb rs ru:Ref}{a i:AV}{us0:List Clear}{qs:List ah}{gr0:Int}{b b':eH}(h:jk H rb rs ru a i us0 qs gr0 b)(w:b'.us=b.us)(y:b'.gr=b.gr)(L:b'.da=b.da)
 (m:Fr H') (J:H'.get rs=some (bg (cB Bn b'.ses))) (F:H'.get ru=some (bg (cB zr b'.used))) (g : ∀q c,H.get q=some c->q≠rs->q≠ru->H'.get q=some c) :
 jk H' rb rs ru a i us0 qs gr0 b'/\Ss H H' rb rs ru a a:=by
 obtain⟨C,p,x,u,G,v,B,K,E,t,I⟩:=h.box
 have l : ∀q c,H.get q=some c->c.kq=true->H'.get q=some c:=by
  intro q c f k
  refine g q c f ?_ ?_
  ·rintro rfl;rw[h.ses]at f;cases f;exact absurd k (by simp[bg])
  ·rintro rfl;rw[h.use]at f;cases f;exact absurd k (by simp[bg])
 refine⟨⟨⟨C,p,x,u,G,v,?_,K,E,?_,I.bQ l⟩,J,F,?_,h.one,h.sep,h.t43⟩,⟨m,λq c f _ A z o=>⟨g q c f A z,o⟩⟩⟩
 ·rw[y];exact g _ _ B h.sep.1 h.sep.2.1
 ·rw[w];exact t.bQ l
 ·rw[L]
  rcases h.da with n | ⟨r,rfl,D⟩
  ·exact .inl n
  ·exact .inr ⟨r,rfl,g _ _ D (λe=>h.sep.2.2.2.2.1 (by rw[e];rfl)) (λe=>h.sep.2.2.2.2.2 (by rw[e];rfl))⟩
def Dg(b:eH)(o:aC)(u:Int):eH:=
 {b with ses:=gw o.h (wO.av ⟨true,u,0⟩) b.ses,used:=gw ⟨o.h.lv,o.h.cats⟩ (wX.av { lJ b o with opens:=IntKind.i64.wrap ((lJ b o).opens+1)}) b.used}
def A0(b:eH)(o:aC)(c:Int):wX := { lJ b o with ops:=IntKind.i64.wrap ((lJ b o).ops+1),cells:=if c=0/\o.kind=1 then IntKind.i64.wrap ((lJ b o).cells+o.s.many) else (lJ b o).cells}
def wB(b:eH)(o:aC)(c:Int)(y:AV):eH:=
 {b with ses:=gw o.h (wO.av { ld b o with s:=IntKind.i64.wrap ((ld b o).s+1)}) b.ses,used:=gw ⟨o.h.lv,o.h.cats⟩ (wX.av (A0 b o c)) b.used,da:=if c=0 then b.da++[(o,y)] else b.da}
def EF(b:eH)(u:Int)(v:UInt8)(c:UInt32)(ok:Bool):eH := { b with us:=b.us.set u.toNat ⟨v,c,ok⟩,gr:=IntKind.i64.wrap (b.gr - 1)}
theorem XR{H:aa}{rs:Ref}{l:List (mz × AV)}(c:H.get rs=some (bg (cB Bn l)))(h:mz)(x:AV):dP env.P H 126 (some (.mp rs)) (some (.agg [a8 h.lv,ae h.cats,a8 h.num])) (some x)=some (AV.undef,H.put rs (some (bg (cB Bn (gw h x l))))):=
 vT Mj Jd (t:=126) (et:=73) (by kernel_rfl) c h x
theorem XQ{H:aa}{ru:Ref}{l:List (iI × AV)}(c:H.get ru=some (bg (cB zr l)))(v:iI)(x:AV):dP env.P H 127 (some (.mp ru)) (some (.agg [a8 v.lv,ae v.cats])) (some x)=some (AV.undef,H.put ru (some (bg (cB zr (gw v x l))))):=
 vT Mi I5 (t:=127) (et:=81) (by kernel_rfl) c v x
section
variable(dep:Nat){H:aa}(m:Fr H){rb rs ru:Ref}{a i:AV}{us0:List Clear}{qs:List ah}{gr0:Int}{b:eH}(d:jk H rb rs ru a i us0 qs gr0 b)(j:q0 b)
include m d j
theorem aco(k:UInt8)(u:Int)(I:UInt8)(l:UInt8)(e:UInt32)(D:UInt8)(K:Int)(G:UInt8)(F:UInt32)(E:UInt8)(J:Int)(B:Int)(C:UInt8)(n:UInt32)(t:UInt8)(A:Int)(z:UInt8)(p:UInt32)(c T:Int)(v:UInt8)(w:UInt32)(o:Bool){x:AV}{al:List Int}(hx:Sl 1 (rows al) x) :
 ∃H',bD env dep (.fn 148) [.ptr rb 0 0,.agg [a8 k,aI u,a8 I,a8 l,ae e,a8 D,aI K,a8 G,ae F,a8 E,aI J,aI B,a8 C,ae n,a8 t,aI A,a8 z,ae p,x,aI c,aI T,a8 v,ae w,aB o]] H=some (.v (.tuple #[]),H')/\jk H' rb rs ru a i us0 qs gr0 (Dg b (⟨I,⟨l,e,D⟩,K,⟨⟨⟨G,F,E⟩,J⟩,B⟩,⟨⟨C,n,t⟩,A⟩,⟨z,p⟩,al⟩:aC) u)/\Ss H H' rb rs ru a a:=by
 have Q:bF env Tryz.f148 (dep+1) [.code EK] (tK 0 [.ptr rb 0 0,.agg [a8 k,aI u,a8 I,a8 l,ae e,a8 D,aI K,a8 G,ae F,a8 E,aI J,aI B,a8 C,ae n,a8 t,aI A,a8 z,ae p,x,aI c,aI T,a8 v,ae w,aB o]]) H λy U=>y = .v (.tuple #[])/\jk U rb rs ru a i us0 qs gr0 (Dg b (⟨I,⟨l,e,D⟩,K,⟨⟨⟨G,F,E⟩,J⟩,B⟩,⟨⟨C,n,t⟩,A⟩,⟨z,p⟩,al⟩:aC) u)/\Ss H U rb rs ru a a:=by
  refine DH _ _ _ _ _ λg=>?_
  have L:=λH'=>d.upd (H':=H') (b':=Dg b (⟨I,⟨l,e,D⟩,K,⟨⟨⟨G,F,E⟩,J⟩,B⟩,⟨⟨C,n,t⟩,A⟩,⟨z,p⟩,al⟩:aC) u) rfl rfl rfl
  obtain⟨xu,xq,yu,yq,wu,wq,P,Y,h3,V,R⟩:=d.box
  have W:=d.ses
  have X:=d.use
  have c4:=V.s.cells
  have c5:=R.s.cells
  have c8:a.cells=[a]/\a.one=true:=by obtain⟨_,hs⟩:=nP d.da;exact hs.cells
  have c9:=d.one
  have l1:(H.get rb).isSome=true:=by rw[P];rfl
  have l6:(H.get rs).isSome=true:=by rw[W];rfl
  have l7:(H.get ru).isSome=true:=by rw[X];rfl
  obtain⟨s1,s2,Z,_⟩:=d.sep
  have s1':=s1.symm
  have s2':=s2.symm
  have s3':=Z.symm
  have O:=λ(H':aa)(h:H'.get rs=some (bg (cB Bn b.ses)))=>XR h ⟨l,e,D⟩
  have M:=λ(H':aa)(h:H'.get ru=some (bg (cB zr b.used)))=>XQ h ⟨l,e⟩
  have N:=λ(H':aa)(h:H'.get ru=some (bg (cB zr b.used)))=>Ff (g:=H'.get) j.used h ⟨l,e⟩
  simp only[Dg,lJ]at L
  unfold Dg lJ
  simp only
  generalize pT (aV ⟨l,e⟩ b.used)=uu at *
  obtain⟨u1,u2,u3⟩:=uu
  clear d V R j
  simp only[wO.av,wX.av]at L
  simp[ai, *,xI,hx.r,P,W,X,N,O,M,wO.av,wX.av]
  clear O M N
  refine L _ ?_ ?_ ?_ λq cc S n1 n2=>?_
  ·simp(maxDischargeDepth:=12) [ek, *]
  ·simp(maxDischargeDepth:=12) [ek, *]
  ·simp(maxDischargeDepth:=12) [ek, *]
  ·have lq:(H.get q).isSome=true:=by rw[S];rfl
   simp[dH m lq,aa.get_put,n1,n2,n1.symm,n2.symm,S]
 obtain⟨y,H',P,rfl,Y⟩:=mJ (f:=148) (by kernel_rfl) (by kernel_rfl) (by kernel_rfl) (by kernel_rfl) (by kernel_rfl) Q
 exact⟨H',P,Y⟩
theorem acj(k:UInt8)(u:Int)(I:UInt8)(L:UInt8)(D:UInt32)(E:UInt8)(K:Int)(G:UInt8)(F:UInt32)(C:UInt8)(J:Int)(z:Int)(A:UInt8)(h:UInt32)(n:UInt8)(t:Int)(p:UInt8)(l:UInt32)(c B:Int)(v:UInt8)(w:UInt32)(o:Bool){x:AV}{al:List Int}(hx:Sl 1 (rows al) x)(hql:qs.length<1000000)(he:yx b.us qs b.gr B v w o=0) :
 ∃H',bD env dep (.fn 153) [.ptr rb 0 0,.agg [a8 k,aI u,a8 I,a8 L,ae D,a8 E,aI K,a8 G,ae F,a8 C,aI J,aI z,a8 A,ae h,a8 n,aI t,a8 p,ae l,x,aI c,aI B,a8 v,ae w,aB o]] H=some (.v (.tuple #[]),H')/\jk H' rb rs ru a i us0 qs gr0 (EF b B v w o)/\Ss H H' rb rs ru a a:=by
 have U:bF env Tryz.f153 (dep+1) [.code EH] (tK 0 [.ptr rb 0 0,.agg [a8 k,aI u,a8 I,a8 L,ae D,a8 E,aI K,a8 G,ae F,a8 C,aI J,aI z,a8 A,ae h,a8 n,aI t,a8 p,ae l,x,aI c,aI B,a8 v,ae w,aB o]]) H λy X=>y = .v (.tuple #[])/\jk X rb rs ru a i us0 qs gr0 (EF b B v w o)/\Ss H X rb rs ru a a:=by
  refine DE _ _ _ _ _ λg=>?_
  obtain⟨Z,W,yu,yq,wu,wq,V,S,Y,N,M⟩:=d.box
  have h6:=d.ses
  have h7:=d.use
  have c8:a.cells=[a]/\a.one=true:=by obtain⟨_,hs⟩:=nP d.da;exact hs.cells
  have c9:=d.one
  have l1:(H.get rb).isSome=true:=by rw[V];rfl
  have hfew:=j.few
  have c4:=λb1=>(N.s.cons m (dep+1) 3 (some b1)).r
  have c5:=λb1=>(M.s.cons m (dep+1) 3 (some b1)).r
  have d4:=N.s.cells
  have d5:=M.s.cells
  obtain⟨T,O,hA⟩:=NH (gr:=b.gr) N.s.sl M.s.sl (by omega) (by omega) B v w o he
  have z4:=(jV.grow N (bE.cons m (dep+1) 3 ⟨24,[.agg [a8 k,aI u,a8 I,a8 L,ae D,a8 E,aI K,a8 G,ae F,a8 C,aI J,aI z,a8 A,ae h,a8 n,aI t,a8 p,ae l,x,aI c,aI B,a8 v,ae w,aB o]],false,false⟩)).refs 6
  have z5:=(jV.grow M (bE.cons m (dep+1) 3 ⟨24,[.agg [a8 k,aI u,a8 I,a8 L,ae D,a8 E,aI K,a8 G,ae F,a8 C,aI J,aI z,a8 A,ae h,a8 n,aI t,a8 p,ae l,x,aI c,aI B,a8 v,ae w,aB o]],false,false⟩)).refs 6
  have hyr:=O.r
  have P : ∀H',Fr H'->H'.get rb=some ⟨10,[.agg [Z,W,aI gr0,.cD 3 (bR (b.us.set B.toNat ⟨v,w,o⟩)) none,T,aI (IntKind.i64.wrap (b.gr - 1)),i,.mp rs,.mp ru,a]],false,false⟩->(∀q c,H.get q=some c->q≠rb->H'.get q=some c) ->
   jk H' rb rs ru a i us0 qs gr0 (EF b B v w o)/\Ss H H' rb rs ru a a:=by
   intro H' f1 f2 R
   refine⟨⟨⟨Z,W,_,T,_,T,f2,S,Y,jV.of (Sl.mk _ _) H',jV.of O H'⟩,R _ _ h6 d.sep.1.symm,R _ _ h7 d.sep.2.1.symm,?_,c9,d.sep,d.t43⟩,⟨f1,λq c Q n1 n2 n3 n4=>⟨R q c Q n1,n4⟩⟩⟩
   rcases d.da with ho | ⟨r,rfl,hr⟩
   ·exact .inl ho
   ·exact .inr ⟨r,rfl,R _ _ hr (λe=>d.sep.2.2.2.1 (by rw[e];rfl))⟩
  clear d N M j
  simp[ai, *,xG,hx.r,S.r,Y.r,CR]
  refine P _ ?_ ?_ λq cc Q n1=>?_
  ·simp(maxDischargeDepth:=12) [ek, *]
  ·simp(maxDischargeDepth:=12) [ek, *]
  ·have lq:(H.get q).isSome=true:=by rw[Q];rfl
   simp[dH m lq,aa.get_put,n1,n1.symm,Q]
 obtain⟨y,H',V,rfl,S⟩:=mJ (f:=153) (by kernel_rfl) (by kernel_rfl) (by kernel_rfl) (by kernel_rfl) (by kernel_rfl) U
 exact⟨H',V,S⟩
end
end
section
attribute [local simp] aG ay aw aF aE bQ gX aM aA aD bI bH bn aN aj bf fe
theorem jk.app{H H':aa}{rb rs ru:Ref}{a xh' n:AV}{us0:List Clear}{qs:List ah}{gr0:Int}{b b':eH}(h:jk H rb rs ru a n us0 qs gr0 b)(D:b'.us=b.us)(J:b'.gr=b.gr)
 (p:Fr H') (K:H'.get rs=some (bg (cB Bn b'.ses))) (E:H'.get ru=some (bg (cB zr b'.used))) (M:Own 17 (cF b'.da) H' xh') (I : ∀r,xh'.at?=some r->r.t=43)
 (v : ∀k i o l,H.get rb=some ⟨10,[.agg [k,i,aI gr0,o,l,aI b.gr,n,.mp rs,.mp ru,a]],false,false⟩->H'.get rb=some ⟨10,[.agg [k,i,aI gr0,o,l,aI b.gr,n,.mp rs,.mp ru,xh']],false,false⟩)
 (g : ∀q c,H.get q=some c->xh'.at?≠some q/\(q≠rb->q≠rs->q≠ru->a.at?≠some q->H'.get q=some c)) :
 jk H' rb rs ru xh' n us0 qs gr0 b'/\Ss H H' rb rs ru a xh':=by
 obtain⟨k,i,o,l,F,C,u,L,B,z,G⟩:=h.box
 have w : ∀q c,H.get q=some c->c.kq=true->H'.get q=some c:=by
  intro q c f m
  refine(g q c f).2 ?_ ?_ ?_ ?_
  ·rintro rfl;rw[u]at f;cases f;exact absurd m (by simp)
  ·rintro rfl;rw[h.ses]at f;cases f;exact absurd m (by simp[bg])
  ·rintro rfl;rw[h.use]at f;cases f;exact absurd m (by simp[bg])
  ·intro e
   rcases h.da with ⟨rfl,_⟩ | ⟨r,rfl,A⟩
   ·cases e
   ·simp only[AV.at?,dT]at e;subst e;rw[A]at f;cases f;exact absurd m (by simp)
 refine⟨⟨⟨k,i,o,l,F,C,?_,L,B,?_,G.bQ w⟩,K,E,M,h.one,⟨h.sep.1,h.sep.2.1,h.sep.2.2.1,(g _ _ u).1,(g _ _ h.ses).1,(g _ _ h.use).1⟩,I⟩,⟨p,λq c f n1 n2 x y=>⟨(g q c f).2 n1 n2 x y,(g q c f).1⟩⟩⟩
 ·rw[J];exact v _ _ _ _ u
 ·rw[D];exact z.bQ w
theorem EE{H:aa}{rs:Ref}{l:List (mz × AV)}(g:H.get rs=some (bg (cB Bn l)))(h:mz){K:AV->aa->Prop}{m:Mk (iY env.P H 126 (some (.mp rs)) (some (.agg [a8 h.lv,ae h.cats,a8 h.num])),K)}
 (o : ∀(i:Nat) c,(∀(H':aa) x,H'.get rs=some (bg (cB Bn c))->fR H' (some (.mp rs)) (some (aI i)) (some x)=some (AV.undef,H'.put rs (some (bg (cB Bn (gw h x l)))))) ->∀z,K (.tup [z,aI i]) (H.put rs (some (bg (cB Bn c))))) :
 jA (iY env.P H 126 (some (.mp rs)) (some (.agg [a8 h.lv,ae h.cats,a8 h.num]))) K m:=by
 obtain⟨i,c,e,⟨x0,q⟩,k⟩:=CD Mj Jd (t:=126) (et:=73) (by kernel_rfl) (z := .agg [aB false,aI 0,aI 0]) (by kernel_rfl) g h
 refine FH e (o i c (λH' x f=>?_) _)
 rw[<-k x]
 exact AS f q _ x
theorem ED{H:aa}{ru:Ref}{l:List (iI × AV)}(g:H.get ru=some (bg (cB zr l)))(v:iI){K:AV->aa->Prop}{m:Mk (iY env.P H 127 (some (.mp ru)) (some (.agg [a8 v.lv,ae v.cats])),K)}
 (k : ∀(i:Nat) c,(∀(H':aa) x,H'.get ru=some (bg (cB zr c))->fR H' (some (.mp ru)) (some (aI i)) (some x)=some (AV.undef,H'.put ru (some (bg (cB zr (gw v x l)))))) ->∀z,K (.tup [z,aI i]) (H.put ru (some (bg (cB zr c))))) :
 jA (iY env.P H 127 (some (.mp ru)) (some (.agg [a8 v.lv,ae v.cats]))) K m:=by
 obtain⟨i,c,e,⟨x0,o⟩,h⟩:=CD Mi I5 (t:=127) (et:=81) (by kernel_rfl) (z := .agg [a8 0,ae 0,aI 0,aI 0,aI 0]) (by kernel_rfl) g v
 refine FH e (k i c (λH' x f=>?_) _)
 rw[<-h x]
 exact AS f o _ x
section
variable(dep:Nat){H:aa}(p:Fr H){rb rs ru:Ref}{a n:AV}{us0:List Clear}{qs:List ah}{gr0:Int}{b:eH}(d:jk H rb rs ru a n us0 qs gr0 b)(j:q0 b)
include p d j
theorem acm(k:UInt8)(u:Int)(J:UInt8)(i:UInt8)(e:UInt32)(z:UInt8)(L:Int)(I:UInt8)(G:UInt32)(F:UInt8)(K:Int)(D:Int)(E:UInt8)(m:UInt32)(A:UInt8)(C:Int)(B:UInt8)(t:UInt32)(c W:Int)(v:UInt8)(w:UInt32)(o:Bool){x:AV}{al:List Int}(hx:Sl 1 (rows al) x)(R:c≠0) :
 ∃H',bD env dep (.fn 150) [.ptr rb 0 0,.agg [a8 k,aI u,a8 J,a8 i,ae e,a8 z,aI L,a8 I,ae G,a8 F,aI K,aI D,a8 E,ae m,a8 A,aI C,a8 B,ae t,x,aI c,aI W,a8 v,ae w,aB o]] H=some (.v (.tuple #[]),H')/\jk H' rb rs ru a n us0 qs gr0 (wB b (⟨J,⟨i,e,z⟩,L,⟨⟨⟨I,G,F⟩,K⟩,D⟩,⟨⟨E,m,A⟩,C⟩,⟨B,t⟩,al⟩:aC) c ba)/\Ss H H' rb rs ru a a:=by
 have T:bF env Tryz.f150 (dep+1) [.code xD] (tK 0 [.ptr rb 0 0,.agg [a8 k,aI u,a8 J,a8 i,ae e,a8 z,aI L,a8 I,ae G,a8 F,aI K,aI D,a8 E,ae m,a8 A,aI C,a8 B,ae t,x,aI c,aI W,a8 v,ae w,aB o]]) H λy X=>y = .v (.tuple #[])/\jk X rb rs ru a n us0 qs gr0 (wB b (⟨J,⟨i,e,z⟩,L,⟨⟨⟨I,G,F⟩,K⟩,D⟩,⟨⟨E,m,A⟩,C⟩,⟨B,t⟩,al⟩:aC) c ba)/\Ss H X rb rs ru a a:=by
  refine xd _ _ _ _ _ λg=>?_
  have N:=λH'=>d.upd (H':=H') (b':=wB b (⟨J,⟨i,e,z⟩,L,⟨⟨⟨I,G,F⟩,K⟩,D⟩,⟨⟨E,m,A⟩,C⟩,⟨B,t⟩,al⟩:aC) c ba) rfl rfl (by simp[wB,R])
  obtain⟨xu,xq,yu,yq,wu,wq,S,h2,h3,Y,U⟩:=d.box
  have Z:=d.ses
  have h7:=d.use
  have c4:=Y.s.cells
  have c5:=U.s.cells
  have c8:a.cells=[a]/\a.one=true:=by obtain⟨_,hs⟩:=nP d.da;exact hs.cells
  have c9:=d.one
  have l1:(H.get rb).isSome=true:=by rw[S];rfl
  have l6:(H.get rs).isSome=true:=by rw[Z];rfl
  have l7:(H.get ru).isSome=true:=by rw[h7];rfl
  obtain⟨s1,s2,s3,_⟩:=d.sep
  have s1':=s1.symm
  have s2':=s2.symm
  have s3':=s3.symm
  have P:=λ(H':aa)(h:H'.get ru=some (bg (cB zr b.used)))=>Ff (g:=H'.get) j.used h ⟨i,e⟩
  have M:=λ(H':aa)(h:H'.get rs=some (bg (cB Bn b.ses)))=>Iw (g:=H'.get) j.ses h ⟨i,e,z⟩
  simp only[wB,A0,lJ,ld,R,false_and,if_false]at N
  unfold wB A0 lJ ld
  simp only[R,false_and,if_false]
  generalize pT (aV ⟨i,e⟩ b.used)=uu at *
  obtain⟨u1,u2,u3⟩:=uu
  generalize gN (aV ⟨i,e,z⟩ b.ses)=ss at *
  obtain⟨t1,t2,t3⟩:=ss
  clear d Y U j
  simp only[wO.av,wX.av]at N
  simp[ai, *,jQ,hx.r,S,Z,h7,P,M,wO.av,wX.av,ny,sv,jK,yg,R]
  refine EE (l:=b.ses) ?_ ⟨i,e,z⟩ λi1 m1 O z1=>?_
  ·simp(maxDischargeDepth:=12) [ek, *]
  simp[ai, *,aa.get_put,O]
  refine ED (l:=b.used) ?_ ⟨i,e⟩ λi2 m2 Q z2=>?_
  ·simp(maxDischargeDepth:=12) [ek, *]
  simp[ai, *,aa.get_put,Q]
  clear P M O Q
  refine N _ ?_ ?_ ?_ λq cc V n1 n2=>?_
  ·simp(maxDischargeDepth:=12) [ek, *]
  ·simp(maxDischargeDepth:=12) [ek, *]
  ·simp(maxDischargeDepth:=12) [ek, *]
  ·have lq:(H.get q).isSome=true:=by rw[V];rfl
   simp[dH p lq,aa.get_put,n1,n2,n1.symm,n2.symm,V]
 obtain⟨y,H',S,rfl,h2⟩:=mJ (f:=150) (by kernel_rfl) (by kernel_rfl) (by kernel_rfl) (by kernel_rfl) (by kernel_rfl) T
 exact⟨H',S,h2⟩
theorem YT(k:UInt8)(u:Int)(K:UInt8)(m:UInt8)(i:UInt32)(C:UInt8)(P:Int)(O:UInt8)(N:UInt32)(M:UInt8)(L:Int)(B:Int)(J:UInt8)(G:UInt32)(I:UInt8)(F:Int)(E:UInt8)(D:UInt32)(g1:Int)(v:UInt8)(w:UInt32)(o:Bool){x:AV}{al:List Int}(hx:Sl 1 (rows al) x)(hal:al.length<1000000) :
 ∃H' xh',bD env dep (.fn 150) [.ptr rb 0 0,.agg [a8 k,aI u,a8 K,a8 m,ae i,a8 C,aI P,a8 O,ae N,a8 M,aI L,aI B,a8 J,ae G,a8 I,aI F,a8 E,ae D,x,aI 0,aI g1,a8 v,ae w,aB o]] H=some (.v (.tuple #[]),H')/\jk H' rb rs ru xh' n us0 qs gr0 (wB b (⟨K,⟨m,i,C⟩,P,⟨⟨⟨O,N,M⟩,L⟩,B⟩,⟨⟨J,G,I⟩,F⟩,⟨E,D⟩,al⟩:aC) 0 (tE x))/\Ss H H' rb rs ru a xh':=by
 obtain⟨y,ht,hy,hT⟩:=Vs K m i C P O N M L B J G I F E D hx hal
 rw[<-ht]
 clear ht
 have hgo:bF env Tryz.f150 (dep+1) [.code xD] (tK 0 [.ptr rb 0 0,.agg [a8 k,aI u,a8 K,a8 m,ae i,a8 C,aI P,a8 O,ae N,a8 M,aI L,aI B,a8 J,ae G,a8 I,aI F,a8 E,ae D,x,aI 0,aI g1,a8 v,ae w,aB o]]) H λz H1=>z = .v (.tuple #[]) /\∃xh',jk H1 rb rs ru xh' n us0 qs gr0 (wB b (⟨K,⟨m,i,C⟩,P,⟨⟨⟨O,N,M⟩,L⟩,B⟩,⟨⟨J,G,I⟩,F⟩,⟨E,D⟩,al⟩:aC) 0 y)/\Ss H H1 rb rs ru a xh':=by
  refine xd _ _ _ _ _ λg=>?_
  obtain⟨xu,xq,yu,yq,wu,wq,Z,h2,h3,h4,h5⟩:=d.box
  have h6:=d.ses
  have h7:=d.use
  have c4:=h4.s.cells
  have c5:=h5.s.cells
  have c8:a.cells=[a]/\a.one=true:=by obtain⟨_,hs⟩:=nP d.da;exact hs.cells
  have c9:=d.one
  have l1:(H.get rb).isSome=true:=by rw[Z];rfl
  have l6:(H.get rs).isSome=true:=by rw[h6];rfl
  have l7:(H.get ru).isSome=true:=by rw[h7];rfl
  have hyr:=hy.r
  obtain⟨s1,s2,s3,s4,s5,s6⟩:=d.sep
  have s1':=s1.symm
  have s2':=s2.symm
  have s3':=s3.symm
  have T:=λ(H':aa)(h:H'.get ru=some (bg (cB zr b.used)))=>Ff (g:=H'.get) j.used h ⟨m,i⟩
  have Q:=λ(H':aa)(h:H'.get rs=some (bg (cB Bn b.ses)))=>Iw (g:=H'.get) j.ses h ⟨m,i,C⟩
  have hmany:=j.many
  have heo:cF (wB b (⟨K,⟨m,i,C⟩,P,⟨⟨⟨O,N,M⟩,L⟩,B⟩,⟨⟨J,G,I⟩,F⟩,⟨E,D⟩,al⟩:aC) 0 y).da=cF b.da++[.agg [a8 K,a8 m,ae i,a8 C,aI P,a8 O,ae N,a8 M,aI L,aI B,a8 J,ae G,a8 I,aI F,a8 E,ae D,y]]:=by simp[wB,cF,Aw]
  have hds:(wB b (⟨K,⟨m,i,C⟩,P,⟨⟨⟨O,N,M⟩,L⟩,B⟩,⟨⟨J,G,I⟩,F⟩,⟨E,D⟩,al⟩:aC) 0 y).ses=gw ⟨m,i,C⟩ (wO.av { gN (aV ⟨m,i,C⟩ b.ses)with s:=IntKind.i64.wrap ((gN (aV ⟨m,i,C⟩ b.ses)).s+1)}) b.ses:=rfl
  have hdu:(wB b (⟨K,⟨m,i,C⟩,P,⟨⟨⟨O,N,M⟩,L⟩,B⟩,⟨⟨J,G,I⟩,F⟩,⟨E,D⟩,al⟩:aC) 0 y).used=gw ⟨m,i⟩ (wX.av { pT (aV ⟨m,i⟩ b.used)with ops:=IntKind.i64.wrap ((pT (aV ⟨m,i⟩ b.used)).ops+1),cells:=if K=1 then IntKind.i64.wrap ((pT (aV ⟨m,i⟩ b.used)).cells+B) else (pT (aV ⟨m,i⟩ b.used)).cells}) b.used:=by
   simp[wB,A0,lJ]
  have hol:=jN b.da
  generalize pT (aV ⟨m,i⟩ b.used)=uu at *
  obtain⟨u1,u2,u3⟩:=uu
  generalize gN (aV ⟨m,i,C⟩ b.ses)=ss at *
  obtain⟨t1,t2,t3⟩:=ss
  have da:=d.da
  have h43:=d.t43
  have X:=λH' xh'=>jk.app (H':=H') (xh':=xh') (b':=wB b (⟨K,⟨m,i,C⟩,P,⟨⟨⟨O,N,M⟩,L⟩,B⟩,⟨⟨J,G,I⟩,F⟩,⟨E,D⟩,al⟩:aC) 0 y) d rfl rfl
  rw[hds,hdu,heo]at X
  simp only[wO.av,wX.av]at X
  clear hds hdu heo d h4 h5
  have hbx : ∀(xh':AV)(H':aa),H'.get rb=some ⟨10,[.agg [xu,xq,aI gr0,yu,yq,aI b.gr,n,.mp rs,.mp ru,xh']],false,false⟩ ->∀xu xq yu yq,H.get rb=some ⟨10,[.agg [xu,xq,aI gr0,yu,yq,aI b.gr,n,.mp rs,.mp ru,a]],false,false⟩->H'.get rb=some ⟨10,[.agg [xu,xq,aI gr0,yu,yq,aI b.gr,n,.mp rs,.mp ru,xh']],false,false⟩:=by
   intro xh' H' h xu' xq' yu' yq' h'
   rw[Z]at h'
   simp only[dT,bw.mk.injEq,AO,AV.agg.injEq,and_true,true_and]at h'
   obtain⟨rfl,rfl,rfl,rfl⟩:=h'
   exact h
  have A : ∀(H':aa)(xh':AV),Fr H'->H'.get rs=some (bg (cB Bn (gw ⟨m,i,C⟩ (.agg [aB t1,aI t2,aI (IntKind.i64.wrap (t3+1))]) b.ses))) ->
   H'.get ru=some (bg (cB zr (gw ⟨m,i⟩ (.agg [a8 0,ae 0,aI u1,aI (IntKind.i64.wrap (u2+1)),aI (if K=1 then IntKind.i64.wrap (u3+B) else u3)]) b.used)))->Own 17 (cF b.da++[.agg [a8 K,a8 m,ae i,a8 C,aI P,a8 O,ae N,a8 M,aI L,aI B,a8 J,ae G,a8 I,aI F,a8 E,ae D,y]]) H' xh'->(∀r,xh'.at?=some r->r.t=43) ->
   H'.get rb=some ⟨10,[.agg [xu,xq,aI gr0,yu,yq,aI b.gr,n,.mp rs,.mp ru,xh']],false,false⟩->(∀q c,H.get q=some c->xh'.at?≠some q/\(q≠rb->q≠rs->q≠ru->a.at?≠some q->H'.get q=some c)) ->
   ∃xh',jk H' rb rs ru xh' n us0 qs gr0 (wB b (⟨K,⟨m,i,C⟩,P,⟨⟨⟨O,N,M⟩,L⟩,B⟩,⟨⟨J,G,I⟩,F⟩,⟨E,D⟩,al⟩:aC) 0 y)/\Ss H H' rb rs ru a xh':=
   λH' xh' a1 a2 a3 a4 at' a5 a6=>⟨xh',X H' xh' a1 a2 a3 a4 at' (hbx _ _ a5) a6⟩
  clear X hbx
  generalize cF b.da=eo at *
  generalize b.da.length=nh at *
  clear j
  generalize wB b (⟨K,⟨m,i,C⟩,P,⟨⟨⟨O,N,M⟩,L⟩,B⟩,⟨⟨J,G,I⟩,F⟩,⟨E,D⟩,al⟩:aC) 0 y=B' at *
  revert A
  rcases da with ⟨rfl,rfl⟩ | ⟨r,rfl,h8⟩
  ·clear hol h43 hmany nh
   by_cases V:K=1
   ·subst V
    simp[ai, *,jQ,hx.r,Z,h6,h7,T,Q,wO.av,wX.av,ny,sv,jK,yg]
    intro A
    refine EE (l:=b.ses) ?_ ⟨m,i,C⟩ λi1 m1 R z1=>?_
    ·clear A;simp(maxDischargeDepth:=12) [ek, *]
    revert A
    simp[ai, *,aa.get_put,R]
    intro A
    refine ED (l:=b.used) ?_ ⟨m,i⟩ λi2 m2 S z2=>?_
    ·clear A;simp(maxDischargeDepth:=12) [ek, *]
    revert A
    simp[ai, *,aa.get_put,S]
    intro A
    clear T Q R S
    refine A _ (.cG ⟨dep+1,43,H.gen (dep+1) 43,0⟩ 0 1 none) ?_ ?_ ?_ (.inr ⟨⟨dep+1,43,H.gen (dep+1) 43,0⟩,rfl,?_⟩) (λr hr=>by cases hr;rfl) ?_ λq cc U=>⟨?_,λn1 n2 Y=>?_⟩
    ·clear A;simp(maxDischargeDepth:=12) [ek, *]
    ·clear A;simp(maxDischargeDepth:=12) [ek, *]
    ·clear A;simp(maxDischargeDepth:=12) [ek, *]
    ·clear A;simp(maxDischargeDepth:=12) [ek, *]
    ·clear A;simp(maxDischargeDepth:=12) [ek, *]
    ·clear A
     have W:(H.get q).isSome=true:=by rw[U];rfl
     simp[AV.at?,dH p W]
    ·clear A
     have W:(H.get q).isSome=true:=by rw[U];rfl
     simp[dH p W,aa.get_put,n1,n2,Y,λe=>n1 (sf e),λe=>n2 (sf e),λe=>Y (sf e),U]
   ·simp only[V,if_false]
    simp[ai, *,jQ,hx.r,Z,h6,h7,T,Q,wO.av,wX.av,ny,sv,jK,yg,V]
    intro A
    refine EE (l:=b.ses) ?_ ⟨m,i,C⟩ λi1 m1 R z1=>?_
    ·clear A;simp(maxDischargeDepth:=12) [ek, *]
    revert A
    simp[ai, *,aa.get_put,R]
    intro A
    refine ED (l:=b.used) ?_ ⟨m,i⟩ λi2 m2 S z2=>?_
    ·clear A;simp(maxDischargeDepth:=12) [ek, *]
    revert A
    simp[ai, *,aa.get_put,S]
    intro A
    clear T Q R S
    refine A _ (.cG ⟨dep+1,43,H.gen (dep+1) 43,0⟩ 0 1 none) ?_ ?_ ?_ (.inr ⟨⟨dep+1,43,H.gen (dep+1) 43,0⟩,rfl,?_⟩) (λr hr=>by cases hr;rfl) ?_ λq cc U=>⟨?_,λn1 n2 Y=>?_⟩
    ·clear A;simp(maxDischargeDepth:=12) [ek, *]
    ·clear A;simp(maxDischargeDepth:=12) [ek, *]
    ·clear A;simp(maxDischargeDepth:=12) [ek, *]
    ·clear A;simp(maxDischargeDepth:=12) [ek, *]
    ·clear A;simp(maxDischargeDepth:=12) [ek, *]
    ·clear A
     have W:(H.get q).isSome=true:=by rw[U];rfl
     simp[AV.at?,dH p W]
    ·clear A
     have W:(H.get q).isSome=true:=by rw[U];rfl
     simp[dH p W,aa.get_put,n1,n2,Y,λe=>n1 (sf e),λe=>n2 (sf e),λe=>Y (sf e),U]
  ·have f4:nx 17 112 nh true none (some ⟨17,eo,true,false⟩) (some [.agg [a8 K,a8 m,ae i,a8 C,aI P,a8 O,ae N,a8 M,aI L,aI B,a8 J,ae G,a8 I,aI F,a8 E,ae D,y]]):=by
    simp;omega
   have e43:=h43 r rfl
   clear h43
   obtain⟨rd,rt,rg,rk⟩:=r
   simp only at e43
   subst e43
   have l8:(H.get ⟨rd,43,rg,rk⟩).isSome=true:=by rw[h8];rfl
   have nr1:(⟨rd,43,rg,rk⟩:Ref)≠rb:=λe=>s4 (by rw[e];rfl)
   have nr2:(⟨rd,43,rg,rk⟩:Ref)≠rs:=λe=>s5 (by rw[e];rfl)
   have nr3:(⟨rd,43,rg,rk⟩:Ref)≠ru:=λe=>s6 (by rw[e];rfl)
   have nr1':=nr1.symm
   have nr2':=nr2.symm
   have nr3':=nr3.symm
   clear s4 s5 s6
   by_cases V:K=1
   ·subst V
    simp[ai, *,jQ,hx.r,Z,h6,h7,T,Q,wO.av,wX.av,ny,sv,jK,yg]
    intro A
    refine EE (l:=b.ses) ?_ ⟨m,i,C⟩ λi1 m1 R z1=>?_
    ·clear A;simp(maxDischargeDepth:=12) [ek, *]
    revert A
    simp[ai, *,aa.get_put,R]
    intro A
    refine ED (l:=b.used) ?_ ⟨m,i⟩ λi2 m2 S z2=>?_
    ·clear A;simp(maxDischargeDepth:=12) [ek, *]
    revert A
    simp[ai, *,aa.get_put,S]
    intro A
    clear T Q R S
    refine A _ (.cG ⟨rd,43,H.gen rd 43,0⟩ 0 (nh+1) none) ?_ ?_ ?_ (.inr ⟨⟨rd,43,H.gen rd 43,0⟩,by simp[hol],?_⟩) (λr hr=>by cases hr;rfl) ?_ λq cc U=>⟨?_,λn1 n2 Y n4=>?_⟩
    ·clear A;simp(maxDischargeDepth:=12) [ek, *]
    ·clear A;simp(maxDischargeDepth:=12) [ek, *]
    ·clear A;simp(maxDischargeDepth:=12) [ek, *]
    ·clear A;simp(maxDischargeDepth:=12) [ek, *]
    ·clear A;simp(maxDischargeDepth:=12) [ek, *]
    ·clear A
     have W:(H.get q).isSome=true:=by rw[U];rfl
     simp[AV.at?,dH p W]
    ·clear A
     have W:(H.get q).isSome=true:=by rw[U];rfl
     simp[dH p W,aa.get_put,n1,n2,Y,λe=>n1 (sf e),λe=>n2 (sf e),λe=>Y (sf e),U]
     all_goals (intro e;exact n4 (by first | exact e.symm | (rw[e];rfl)))
   ·simp only[V,if_false]
    simp[ai, *,jQ,hx.r,Z,h6,h7,T,Q,wO.av,wX.av,ny,sv,jK,yg,V]
    intro A
    refine EE (l:=b.ses) ?_ ⟨m,i,C⟩ λi1 m1 R z1=>?_
    ·clear A;simp(maxDischargeDepth:=12) [ek, *]
    revert A
    simp[ai, *,aa.get_put,R]
    intro A
    refine ED (l:=b.used) ?_ ⟨m,i⟩ λi2 m2 S z2=>?_
    ·clear A;simp(maxDischargeDepth:=12) [ek, *]
    revert A
    simp[ai, *,aa.get_put,S]
    intro A
    clear T Q R S
    refine A _ (.cG ⟨rd,43,H.gen rd 43,0⟩ 0 (nh+1) none) ?_ ?_ ?_ (.inr ⟨⟨rd,43,H.gen rd 43,0⟩,by simp[hol],?_⟩) (λr hr=>by cases hr;rfl) ?_ λq cc U=>⟨?_,λn1 n2 Y n4=>?_⟩
    ·clear A;simp(maxDischargeDepth:=12) [ek, *]
    ·clear A;simp(maxDischargeDepth:=12) [ek, *]
    ·clear A;simp(maxDischargeDepth:=12) [ek, *]
    ·clear A;simp(maxDischargeDepth:=12) [ek, *]
    ·clear A;simp(maxDischargeDepth:=12) [ek, *]
    ·clear A
     have W:(H.get q).isSome=true:=by rw[U];rfl
     simp[AV.at?,dH p W]
    ·clear A
     have W:(H.get q).isSome=true:=by rw[U];rfl
     simp[dH p W,aa.get_put,n1,n2,Y,λe=>n1 (sf e),λe=>n2 (sf e),λe=>Y (sf e),U]
     all_goals (intro e;exact n4 (by first | exact e.symm | (rw[e];rfl)))
 obtain⟨z,H',Z,rfl,xh',h2,h3⟩:=mJ (f:=150) (by kernel_rfl) (by kernel_rfl) (by kernel_rfl) (by kernel_rfl) (by kernel_rfl) hgo
 exact⟨H',xh',Z,h2,h3⟩
end
end
section
attribute [local simp] aG ay aw aF aE bQ gX aM aA aD bI bH bn aN aj bf fe
def YR(f g:FuncId):AV := .agg [.fn (.func f) [] [],.fn (.func g) [] []]
def yv:List AV:=[.tup [a8 1,YR 145 148],.tup [a8 2,YR 149 150],.tup [a8 3,YR 151 153]]
theorem X6:ak env 84 []=some (.fsl 0 (.v (.bool true) :: yv) none):=Gf (n:=400) (by kernel_rfl)
theorem YS(a:Bool)(dep:Nat)(H:aa)(d t g:Nat):aL env a (ak env) (bD env dep) H ⟨d,t,g,0⟩ (some (.fn (.func 84) [] [])) []=some (.mp ⟨d,t,g,0⟩,(⟨d,t,g,0⟩,some (bg yv)) :: H):=by
 have c:env.mode 84=1:=by kernel_rfl
 have e:([]++[]++[]:List AV)=[]:=rfl
 have b:(pure []:Option (List AV))=some []:=rfl
 simp only[aL,kJ,c,e,Hr,b,X6]
 cases a<;>rfl
theorem Ik:J0 env.P 151=some (5,150):=by kernel_rfl
theorem acd{g:cX}{r:Ref}(h:g r=some (bg yv)):ff env.P g 151 (some (.mp r)) (some (a8 1)) false=some (YR 145 148,[]):=by
 have b:kn g r=some yv:=by unfold kn;rw[h];rfl
 have a:gV (a8 1)=some (.int .u8 1):=by kernel_rfl
 simp only[ff,Ik,fN,a,b]
 show _=_
 kernel_rfl
theorem acb{g:cX}{r:Ref}(h:g r=some (bg yv)):ff env.P g 151 (some (.mp r)) (some (a8 2)) false=some (YR 149 150,[]):=by
 have b:kn g r=some yv:=by unfold kn;rw[h];rfl
 have a:gV (a8 2)=some (.int .u8 2):=by kernel_rfl
 simp only[ff,Ik,fN,a,b]
 show _=_
 kernel_rfl
theorem aca{g:cX}{r:Ref}(h:g r=some (bg yv)):ff env.P g 151 (some (.mp r)) (some (a8 3)) false=some (YR 151 153,[]):=by
 have b:kn g r=some yv:=by unfold kn;rw[h];rfl
 have a:gV (a8 3)=some (.int .u8 3):=by kernel_rfl
 simp only[ff,Ik,fN,a,b]
 show _=_
 kernel_rfl
end
section
attribute [local simp] aG ay aw aF aE bQ gX aM aA aD bI bH bn aN aj bf fe
theorem Own.grow{z:Nat}{es:List AV}{H H':aa}{x:AV}(h:Own z es H x)(g:bE H H'):Own z es H' x:=by
 rcases h with h | ⟨r,rfl,c⟩
 ·exact .inl h
 ·exact .inr ⟨r,rfl,g.old _ _ c⟩
theorem jk.grow{H H':aa}{rb rs ru:Ref}{d a:AV}{us0:List Clear}{qs:List ah}{gr0:Int}{b:eH}(h:jk H rb rs ru d a us0 qs gr0 b)(g:bE H H'):jk H' rb rs ru d a us0 qs gr0 b:=by
 obtain⟨f,e,t,m,p,o,c,u,k,i,q⟩:=h.box
 exact⟨⟨f,e,t,m,p,o,g.old _ _ c,u,k,i.grow g,q.grow g⟩,g.old _ _ h.ses,g.old _ _ h.use,Own.grow h.da g,h.one,h.sep,h.t43⟩
structure Sr (H0 H:aa) (rb rs ru rk:Ref) (d a:AV) (us0:List Clear) (qs:List ah) (gr0:Int) (b:eH) (recs:List (bW × AV)):Prop where
 g:bE H0 H
 bk:jk H rb rs ru d a us0 qs gr0 b
 row:Own 24 (bu recs) H a
 t62 : ∀r,a.at?=some r->r.t=62/\H0.get r=none
 new : ∀r,d.at?=some r->H0.get r=none
 kd:H.get rk=some (bg yv)
 tt:rb.t=24/\rs.t=21/\ru.t=22/\rk.t=25
 nn:H0.get rb=none/\H0.get rs=none/\H0.get ru=none
section
variable{H0 H H':aa}{rb rs ru rk:Ref}{d a:AV}{us0:List Clear}{qs:List ah}{gr0:Int}{b:eH}{recs:List (bW × AV)}(h:Sr H0 H rb rs ru rk d a us0 qs gr0 b recs)
include h
theorem Sr.grow(g:bE H H'):Sr H0 H' rb rs ru rk d a us0 qs gr0 b recs:=
 ⟨h.g.trans g,h.bk.grow g,Own.grow h.row g,h.t62,h.new,g.old _ _ h.kd,h.tt,h.nn⟩
theorem Sr.ne{q:Ref}{c:bw}(f:H0.get q=some c):q≠rb/\q≠rs/\q≠ru/\d.at?≠some q/\a.at?≠some q:=by
 obtain⟨n1,n2,n3⟩:=h.nn
 refine⟨?_,?_,?_,?_,?_⟩
 ·rintro rfl;rw[n1]at f;cases f
 ·rintro rfl;rw[n2]at f;cases f
 ·rintro rfl;rw[n3]at f;cases f
 ·intro e;have:=h.new q e;rw[f]at this;cases this
 ·intro e;have:=(h.t62 q e).2;rw[f]at this;cases this
theorem Sr.did{xh':AV}{b':eH}(x:jk H' rb rs ru xh' a us0 qs gr0 b')(m:Ss H H' rb rs ru d xh'):Sr H0 H' rb rs ru rk xh' a us0 qs gr0 b' recs:=by
 obtain⟨t1,t2,t3,t4⟩:=h.tt
 have i : ∀q c,H0.get q=some c->H'.get q=some c/\xh'.at?≠some q:=by
  intro q c f
  obtain⟨u,y,w,v,_⟩:=h.ne f
  exact m.old q c (h.g.old q c f) u y w v
 have k : ∀(q:Ref),q.t≠43->d.at?≠some q:=λq f e=>f (h.bk.t43 q e)
 refine⟨⟨m.fr,λq c f=>(i q c f).1⟩,x,?_,h.t62,?_,?_,h.tt,h.nn⟩
 ·rcases h.row with p | ⟨r,rfl,o⟩
  ·exact .inl p
  ·have z:=(h.t62 r rfl).1
   exact .inr ⟨r,rfl,(m.old r _ o (by rintro rfl;omega) (by rintro rfl;omega) (by rintro rfl;omega) (k r (by omega))).1⟩
 ·intro r e
  cases o:H0.get r with
  | none=>rfl
  | some c=>exact absurd e (i r c o).2
 ·exact(m.old rk _ h.kd (by rintro rfl;omega) (by rintro rfl;omega) (by rintro rfl;omega) (k rk (by omega))).1
theorem Sr.put{f:AV}{i:List (bW × AV)}(N:Fr H')(u:Own 24 (bu i) H' f)(M : ∀r,f.at?=some r->r.t=62)
 (z : ∀w v y x,H.get rb=some ⟨10,[.agg [w,v,aI gr0,y,x,aI b.gr,a,.mp rs,.mp ru,d]],false,false⟩->H'.get rb=some ⟨10,[.agg [w,v,aI gr0,y,x,aI b.gr,f,.mp rs,.mp ru,d]],false,false⟩)
 (o : ∀q c,H.get q=some c->f.at?≠some q/\(q≠rb->a.at?≠some q->H'.get q=some c)):Sr H0 H' rb rs ru rk d f us0 qs gr0 b i:=by
 obtain⟨t1,t2,t3,t4⟩:=h.tt
 have m : ∀(q:Ref),q.t≠62->a.at?≠some q:=λq k e=>k (h.t62 q e).1
 obtain⟨w,v,y,x,J,G,B,O,F,E,K⟩:=h.bk.box
 have D : ∀q c,H.get q=some c->c.kq=true->H'.get q=some c:=by
  intro q c k C
  refine(o q c k).2 ?_ ?_
  ·rintro rfl;rw[B]at k;cases k;exact absurd C (by simp)
  ·intro e
   rcases h.row with ⟨rfl,_⟩ | ⟨r,rfl,p⟩
   ·cases e
   ·simp only[AV.at?,dT]at e;subst e;rw[p]at k;cases k;exact absurd C (by simp)
 refine⟨⟨N,λq c k=>?_⟩,⟨⟨w,v,y,x,J,G,z _ _ _ _ B,O,F,E.bQ D,K.bQ D⟩,?_,?_,?_,?_,h.bk.sep,h.bk.t43⟩,u,λr e=>⟨M r e,?_⟩,h.new,?_,h.tt,h.nn⟩
 ·obtain⟨n1,n2,n3,P,L⟩:=h.ne k
  exact(o q c (h.g.old q c k)).2 n1 L
 ·exact(o _ _ h.bk.ses).2 (by rintro rfl;omega) (m _ (by omega))
 ·exact(o _ _ h.bk.use).2 (by rintro rfl;omega) (m _ (by omega))
 ·rcases h.bk.da with u | ⟨r,rfl,p⟩
  ·exact .inl u
  ·have:=h.bk.t43 r rfl
   exact .inr ⟨r,rfl,(o _ _ p).2 (by rintro rfl;omega) (m _ (by omega))⟩
 ·obtain⟨_,I⟩:=nP u;exact I.cells
 ·cases p:H0.get r with
  | none=>rfl
  | some c=>exact absurd e (o r c (h.g.old r c p)).1
 ·exact(o _ _ h.kd).2 (by rintro rfl;omega) (m _ (by omega))
end
theorem xf{f:FuncId}(c:(env.mode f == 2)=true){dep:Nat}{H H':aa}{r:Ref}{first args captured:List AV}{y:AV}{K:AV->aa->Prop}{m:Mk K}
 (h:bD env dep (.fn f) (first++args++captured) H=some (y,H')) (e:K y H') :
 jA (aL env true (ak env) (bD env dep) H r (some (.fn (.func f) first captured)) args) K m:=by
 refine FH (v:=y) (H:=H') ?_ e
 rw[FJ c]
 exact h
theorem Vg(k:UInt8)(u:Int)(D:UInt8)(J:UInt8)(C:UInt32)(G:UInt8)(F:Int)(z:UInt8)(I:UInt32)(B:UInt8)(E:Int)(f:Int)(m:UInt8)(g:UInt32)(q:UInt8)(e:Int)(t:UInt8)(i:UInt32)(c K:Int)(v:UInt8)(w:UInt32)(o:Bool){x:AV}{al:List Int}(n:Sl 1 (rows al) x)(L:al.length<1000000) :
 ∃y,y=tE x/\Sl 1 (rows al) y/\ak env 161 [.agg [a8 k,aI u,a8 D,a8 J,ae C,a8 G,aI F,a8 z,ae I,a8 B,aI E,aI f,a8 m,ae g,a8 q,aI e,a8 t,ae i,x,aI c,aI K,a8 v,ae w,aB o]]=some (.agg [a8 k,aI u,a8 D,a8 J,ae C,a8 G,aI F,a8 z,ae I,a8 B,aI E,aI f,a8 m,ae g,a8 q,aI e,a8 t,ae i,y,aI c,aI K,a8 v,ae w,aB o]):=Ya (p:=(⟨k,u,(⟨D,⟨J,C,G⟩,F,⟨⟨⟨z,I,B⟩,E⟩,f⟩,⟨⟨m,g,q⟩,e⟩,⟨t,i⟩,al⟩:aC),c,K,v,w,o⟩,x)) ⟨n,L⟩
theorem F6(k:UInt8)(u:Int)(C:UInt8)(I:UInt8)(B:UInt32)(F:UInt8)(E:Int)(y:UInt8)(G:UInt32)(z:UInt8)(D:Int)(f:Int)(m:UInt8)(g:UInt32)(q:UInt8)(e:Int)(t:UInt8)(i:UInt32)(c J:Int)(v:UInt8)(w:UInt32)(o:Bool){x:AV}{al:List Int}(n:Sl 1 (rows al) x)(K:al.length<1000000) :
 ak env 82 [.agg [a8 k,aI u,a8 C,a8 I,ae B,a8 F,aI E,a8 y,ae G,a8 z,aI D,aI f,a8 m,ae g,a8 q,aI e,a8 t,ae i,x,aI c,aI J,a8 v,ae w,aB o]]=some (aI (if ew ⟨k,u,(⟨C,⟨I,B,F⟩,E,⟨⟨⟨y,G,z⟩,D⟩,f⟩,⟨⟨m,g,q⟩,e⟩,⟨t,i⟩,al⟩:aC),c,J,v,w,o⟩ then 0 else 8)):=Qj (p:=(⟨k,u,(⟨C,⟨I,B,F⟩,E,⟨⟨⟨y,G,z⟩,D⟩,f⟩,⟨⟨m,g,q⟩,e⟩,⟨t,i⟩,al⟩:aC),c,J,v,w,o⟩,x)) ⟨n,K⟩
section
variable{l:List (bW × AV)}{j:AV}(n:Sl 24 (bu l) j)(A:l.length<10000){H0:aa}{Q:AV->aa->Prop}{dep:Nat}{rb rs ru rk:Ref}{us0:List Clear}{qs:List ah}{gr0:Int}
include n A
theorem L4{i:Nat}(hi:i<l.length){H:aa}{d a:AV}{b b':eH}{recs:List (bW × AV)}(hI:Sr H0 H rb rs ru rk d a us0 qs gr0 b recs)(hrl:recs.length<=10000){fi fd:FuncId}(hm1:(env.mode fi == 2)=true)(hm2:(env.mode fd == 2)=true)
 (k:UInt8) (u:Int) (M:UInt8) (O:UInt8) (J:UInt32) (F:UInt8) (N:Int) (L:UInt8) (K:UInt32) (I:UInt8) (G:Int) (C:Int) (D:UInt8) (z:UInt32) (B:UInt8) (p:Int) (m:UInt8) (f:UInt32) (c Y:Int) (v:UInt8) (w:UInt32) (o:Bool) {x:AV} {al:List Int} (V:Sl 1 (rows al) x) (hal:al.length<1000000) (hrd:cm (bu l) i 0 24 true=some (.agg [a8 k,aI u,a8 M,a8 O,ae J,a8 F,aI N,a8 L,ae K,a8 I,aI G,aI C,a8 D,ae z,a8 B,aI p,a8 m,ae f,x,aI c,aI Y,a8 v,ae w,aB o]))
 (X : ∀g:cX,g rk=some (bg yv)->ff env.P g 151 (some (.mp rk)) (some (a8 k)) false=some (YR fi fd,[])) (his:ew ⟨k,u,(⟨M,⟨O,J,F⟩,N,⟨⟨⟨L,K,I⟩,G⟩,C⟩,⟨⟨D,z,B⟩,p⟩,⟨m,f⟩,al⟩:aC),c,Y,v,w,o⟩=true) {ft:Bool}
 (hfit : ∀H',Sr H0 H' rb rs ru rk d a us0 qs gr0 b recs ->∃T,bD env (dep+1) (.fn fi) [.ptr rb 0 0,.agg [a8 k,aI u,a8 M,a8 O,ae J,a8 F,aI N,a8 L,ae K,a8 I,aI G,aI C,a8 D,ae z,a8 B,aI p,a8 m,ae f,x,aI c,aI Y,a8 v,ae w,aB o]] H'=some (aB ft,T)/\bE H' T)
 (hdo:ft=true ->∀H',Sr H0 H' rb rs ru rk d a us0 qs gr0 b recs ->∃T xh',bD env (dep+1) (.fn fd) [.ptr rb 0 0,.agg [a8 k,aI u,a8 M,a8 O,ae J,a8 F,aI N,a8 L,ae K,a8 I,aI G,aI C,a8 D,ae z,a8 B,aI p,a8 m,ae f,x,aI c,aI Y,a8 v,ae w,aB o]] H'=some (.v (.tuple #[]),T)/\jk T rb rs ru xh' a us0 qs gr0 b'/\Ss H' T rb rs ru d xh')
 (hno:ft=false ->∀H',bE H0 H'->Q (.tup [.v (.pointer none),.v (.bool false)]) H')
 (W:ft=true ->∀H' xh' E,Sr H0 H' rb rs ru rk xh' E us0 qs gr0 b' (recs++[(⟨k,u,(⟨M,⟨O,J,F⟩,N,⟨⟨⟨L,K,I⟩,G⟩,C⟩,⟨⟨D,z,B⟩,p⟩,⟨m,f⟩,al⟩:aC),c,Y,v,w,o⟩,tE x)])->bF env Tryz.f100 (dep+1) kY [(28,aI ((i:Int)+1)),(6,.ptr rb 0 0),(7,.mp rk),(26,j),(27,aI l.length)] H' Q) :
 bF env Tryz.f100 (dep+1) kY [(28,aI i),(6,.ptr rb 0 0),(7,.mp rk),(26,j),(27,aI l.length)] H Q:=by
 have hF:=hI.g.fr
 have e3:=IntWalk.i64_in ((i:Int)+1) (by omega)
 have hlt':(i:Int)<l.length:=by omega
 have hC:=F6 k u M O J F N L K I G C D z B p m f c Y v w o V hal
 rw[his]at hC
 have hg1 : ∀b1:bw,bE H ((⟨dep+1,9,H.gen (dep+1) 9,0⟩,some b1) :: H):=λb1=>bE.cons hF _ _ _
 have hI1:=λb1=>hI.grow (hg1 b1)
 have hkd:=hI.kd
 have lk:(H.get rk).isSome=true:=by rw[hkd];rfl
 refine vW _ _ _ _ _ _ _ _ λg=>?_
 simp[ai, *,sW,n.r,n.idx,V.r,YR]
 refine nk hm1 (hfit _ (hI1 _)) λH4 hG=>?_
 have U:=(hI1 _).grow hG
 have hb9:=hG.old ⟨dep+1,9,H.gen (dep+1) 9,0⟩ _ (by simp;rfl)
 have hkd4:=U.kd
 cases ft with
 | false=>
  have hfin:=hno rfl _ U.g
  simp
  exact hfin
 | true=>
  have hl4:=X _ hkd4
  obtain⟨S,xh',e1,e2,e4⟩:=hdo rfl H4 U
  have Z:=U.did e2 e4
  have b9:=(e4.old _ _ hb9 (λe=>absurd (congrArg Ref.t e) (by rw[hI.tt.1];simp)) (λe=>absurd (congrArg Ref.t e) (by rw[hI.tt.2.1];simp)) (λe=>absurd (congrArg Ref.t e) (by rw[hI.tt.2.2.1];simp)) (λe=>absurd (hI.bk.t43 _ e) (by simp))).1
  obtain⟨xu,xq,yu,yq,wu,wq,f1,f2,f3,f4,f5⟩:=e2.box
  have c4:=f4.s.cells
  have c5:=f5.s.cells
  have c8:xh'.cells=[xh']/\xh'.one=true:=by obtain⟨_,hs⟩:=nP e2.da;exact hs.cells
  have hF5:=e4.fr
  have l5:(S.get rb).isSome=true:=by rw[f1];rfl
  have l9:(S.get ⟨dep+1,9,H.gen (dep+1) 9,0⟩).isSome=true:=by rw[b9];rfl
  obtain⟨y,hty,hy,hT⟩:=Vg k u M O J F N L K I G C D z B p m f c Y v w o V hal
  rw[<-hty]at W
  have hbx : ∀(E:AV)(H':aa),H'.get rb=some ⟨10,[.agg [xu,xq,aI gr0,yu,yq,aI b'.gr,E,.mp rs,.mp ru,xh']],false,false⟩ ->∀xu xq yu yq,S.get rb=some ⟨10,[.agg [xu,xq,aI gr0,yu,yq,aI b'.gr,a,.mp rs,.mp ru,xh']],false,false⟩->H'.get rb=some ⟨10,[.agg [xu,xq,aI gr0,yu,yq,aI b'.gr,E,.mp rs,.mp ru,xh']],false,false⟩:=by
   intro E H' h xu' xq' yu' yq' h'
   rw[f1]at h'
   simp only[dT,bw.mk.injEq,AO,AV.agg.injEq,and_true,true_and]at h'
   obtain⟨rfl,rfl,rfl,rfl⟩:=h'
   exact h
  have hro:=Z.row
  have h62:=λr e=>(Z.t62 r e).1
  have c9:=e2.one
  have hel:(bu recs).length=recs.length:=eY recs
  have R : ∀(H':aa)(E:AV),Fr H'->Own 24 (bu recs++[.agg [a8 k,aI u,a8 M,a8 O,ae J,a8 F,aI N,a8 L,ae K,a8 I,aI G,aI C,a8 D,ae z,a8 B,aI p,a8 m,ae f,y,aI c,aI Y,a8 v,ae w,aB o]]) H' E->(∀r,E.at?=some r->r.t=62) ->
   H'.get rb=some ⟨10,[.agg [xu,xq,aI gr0,yu,yq,aI b'.gr,E,.mp rs,.mp ru,xh']],false,false⟩->(∀q c,S.get q=some c->E.at?≠some q/\(q≠rb->a.at?≠some q->H'.get q=some c)) ->
   bF env Tryz.f100 (dep+1) kY [(28,aI ((i:Int)+1)),(6,.ptr rb 0 0),(7,.mp rk),(26,j),(27,aI l.length)] H' Q:=
   λH' E a1 a2 a3 a5 a6=>W rfl _ _ _ (Z.put a1 (by rw[bu,He];exact a2) a3 (hbx _ _ a5) a6)
  clear W hbx hno hfit hdo X hI hI1 U Z e2 e4 f4 f5 hC his hg1 hkd hkd4 hrd hty
  generalize bu recs=eo at *
  generalize recs.length=nh at *
  simp[hb9,hl4,YR]
  refine xf hm2 e1 ?_
  clear e1 hl4 hb9 hG
  revert R
  rcases hro with ⟨rfl,rfl⟩ | ⟨r,rfl,h8⟩
  ·clear hel hrl nh h62
   simp[ai, *,b9,f1,hT,V.r,hy.r]
   intro R
   refine R _ (.cG ⟨dep+1,62,S.gen (dep+1) 62,0⟩ 0 1 none) ?_ (.inr ⟨⟨dep+1,62,S.gen (dep+1) 62,0⟩,rfl,?_⟩) (λr hr=>by cases hr;rfl) ?_ λq cc hq=>⟨?_,λn1=>?_⟩
   ·clear R;simp(maxDischargeDepth:=12) [ek, *]
   ·clear R;simp(maxDischargeDepth:=12) [ek, *]
   ·clear R;simp(maxDischargeDepth:=12) [ek, *]
   ·clear R
    have lq:(S.get q).isSome=true:=by rw[hq];rfl
    simp[AV.at?,dH hF5 lq]
   ·clear R
    have lq:(S.get q).isSome=true:=by rw[hq];rfl
    simp[dH hF5 lq,aa.get_put,n1,λe=>n1 (sf e),hq]
  ·have e62:=h62 r rfl
   clear h62
   obtain⟨rd,rt,rg,rk'⟩:=r
   simp only at e62
   subst e62
   have f6:nx 24 160 nh true none (some ⟨24,eo,true,false⟩) (some [.agg [a8 k,aI u,a8 M,a8 O,ae J,a8 F,aI N,a8 L,ae K,a8 I,aI G,aI C,a8 D,ae z,a8 B,aI p,a8 m,ae f,y,aI c,aI Y,a8 v,ae w,aB o]]):=by
    simp;omega
   have l8:(S.get ⟨rd,62,rg,rk'⟩).isSome=true:=by rw[h8];rfl
   have nr1:(⟨rd,62,rg,rk'⟩:Ref)≠rb:=by
    intro e;rw[e,f1]at h8;simp at h8
   have nr1':=nr1.symm
   simp[ai, *,b9,f1,hT,V.r,hy.r]
   intro R
   refine R _ (.cG ⟨rd,62,S.gen rd 62,0⟩ 0 (nh+1) none) ?_ (.inr ⟨⟨rd,62,S.gen rd 62,0⟩,by simp[hel],?_⟩) (λr hr=>by cases hr;rfl) ?_ λq cc hq=>⟨?_,λn1 n4=>?_⟩
   ·clear R;simp(maxDischargeDepth:=12) [ek, *]
   ·clear R;simp(maxDischargeDepth:=12) [ek, *]
   ·clear R;simp(maxDischargeDepth:=12) [ek, *]
   ·clear R
    have lq:(S.get q).isSome=true:=by rw[hq];rfl
    simp[AV.at?,dH hF5 lq]
   ·clear R
    have lq:(S.get q).isSome=true:=by rw[hq];rfl
    simp[dH hF5 lq,aa.get_put,n1,λe=>n1 (sf e),hq]
    all_goals (intro e;exact n4 (by first | exact e.symm | (rw[e];rfl)))
end
end
section
attribute [local simp] aG ay aw aF aE bQ gX aM aA aD bI bH bn aN aj bf fe
def uS(us0:List Clear)(qs:List ah)(gr0:Int)(b:eH)(r:bW):Bool:=if r.kind=1 then Gl us0 qs gr0 b r else if r.kind=2 then CO us0 qs gr0 b r else Gk qs b r
def Mv(b:eH)(p:bW × AV):eH:=if p.1.kind=1 then Dg b p.1.op p.1.user else if p.1.kind=2 then wB b p.1.op p.1.code (tE p.2) else EF b p.1.gu p.1.gv p.1.gc p.1.gok
def QN(us0:List Clear)(qs:List ah)(gr0:Int):eH->List (bW × AV)->Option eH
 | b,[]=>some b
 | b,p :: l=>if ew p.1=true/\uS us0 qs gr0 b p.1=true then QN us0 qs gr0 (Mv b p) l else none
theorem RF{l:List Int}{x:AV}(f:Sl 1 (rows l) x):Sl 1 (rows l) (tE x):=by
 rcases f with ⟨rfl,h⟩ | ⟨c,rfl,h⟩
 ·exact .inl ⟨rfl,h⟩
 ·by_cases b:rows l=[]
  ·rw[b];exact .inr ⟨some 0,rfl,by simp⟩
  ·rw[Nn 1 c b];exact Sl.mk _ _
def LF(p:bW × AV):bW × AV:=(p.1,tE p.2)
theorem O4(b:eH)(p:bW × AV):(Mv b p).da.length<=b.da.length+1:=by
 unfold Mv Dg wB EF
 repeat' split
 all_goals simp
theorem acY{b:eH}(h:q0 b){p:bW × AV}(hp:tA p)(n:b.da.length+1<10000):q0 (Mv b p):=by
 have m:=O4 b p
 unfold Mv at m ⊢
 split at m
 ·rename_i g
  rw[if_pos g]
  refine⟨D3 (P:=λx =>∃s:wO,x=s.av) ⟨_,rfl⟩ h.ses,D3 (P:=λx =>∃s:wX,x=s.av) ⟨_,rfl⟩ h.used,h.da,by omega,h.few⟩
 ·rename_i g
  rw[if_neg g]
  split at m
  ·rename_i k
   rw[if_pos k]
   refine⟨D3 (P:=λx =>∃s:wO,x=s.av) ⟨_,rfl⟩ h.ses,D3 (P:=λx =>∃s:wX,x=s.av) ⟨_,rfl⟩ h.used,?_,by omega,h.few⟩
   intro q c
   unfold wB at c
   simp only at c
   split at c
   ·rcases oH.1 c with c | c
    ·exact h.da q c
    ·rw[vS]at c
     subst c
     exact⟨⟨RF hp.1,by have:=hp.2;simp only;omega⟩,hp.2⟩
   ·exact h.da q c
  ·rename_i k
   rw[if_neg k]
   exact⟨h.ses,h.used,h.da,by omega,by show(b.us.set _ _).length<_;rw[Lj];exact h.few⟩
def JE(H0:aa)(us0:List Clear)(qs:List ah)(gr0:Int)(recs:List (bW × AV))(o:Option eH)(y:AV)(H:aa):Prop:=match o with
 | none=>y = .tup [.v (.pointer none),aB false]/\bE H0 H
 | some b =>∃rb rs ru rk c g,y = .tup [.ptr rb 0 0,aB true]/\Sr H0 H rb rs ru rk c g us0 qs gr0 b recs/\q0 b
section
variable{l:List (bW × AV)}{i:AV}(f:Sl 24 (bu l) i)(j:l.length<=2048)(a : ∀p∈l,tA p){H0:aa}{Q:AV->aa->Prop}{dep:Nat}{rb rs ru rk:Ref}{us0:List Clear}{qs:List ah}{gr0:Int}(e:us0.length<1000000)(d:qs.length<1000000)
include f j a e d
theorem YH : ∀(s:List (bW × AV)) (k:Nat) (b:eH) (recs:List (bW × AV)) (H:aa) (xh xr:AV),l.drop k=s->k<=l.length->recs=(l.take k).map LF->q0 b->b.da.length<=k->Sr H0 H rb rs ru rk xh xr us0 qs gr0 b recs ->
 (∀y H',JE H0 us0 qs gr0 (l.map LF) (QN us0 qs gr0 b s) y H'->Q y H') ->
 bF env Tryz.f100 (dep+1) kY [(28,aI k),(6,.ptr rb 0 0),(7,.mp rk),(26,i),(27,aI l.length)] H Q:=by
 intro s
 induction s with
 | nil=>
  rintro k b recs H xh xr hs hk hr hok hm hI hQ
  obtain rfl:=drop_nil hs hk
  rw[HA]at hr
  subst hr
  have U:=hQ _ H ⟨rb,rs,ru,rk,xh,xr,rfl,hI,hok⟩
  refine vW _ _ _ _ _ _ _ _ λg=>?_
  clear hQ hI a
  simp[ai, *,sW]
  all_goals exact U
 | cons p s ih=>
  rintro k b recs H xh xr hs hk hr hok hm hI hQ
  obtain⟨X,hg,hs',hg'⟩:=drop_cons hs
  have hp:=a p (hg ▸ mq X)
  have hok':=acY hok hp (by omega)
  have hm':=O4 b p
  have hrl:recs.length<=10000:=by rw[hr];simp;omega
  have hr':recs++[LF p]=(l.take (k+1)).map LF:=by
   rw[hr,Ll,hg']
   simp
  have W:=λ(hd:ew p.1=true/\uS us0 qs gr0 b p.1=true) H' xh' S h=>ih (k+1) (Mv b p) _ H' xh' S hs' (by omega) hr' hok' (by omega) h (λy H1 hA=>hQ y H1 (by show JE _ _ _ _ _ (if _ then _ else _) _ _;rw[if_pos hd];exact hA))
  have T : ¬(ew p.1=true/\uS us0 qs gr0 b p.1=true) ->∀H',bE H0 H'->Q (.tup [.v (.pointer none),aB false]) H':=λhd H' hG=>hQ _ H' (by show JE _ _ _ _ _ (if _ then _ else _) _ _;rw[if_neg hd];exact⟨rfl,hG⟩)
  obtain⟨⟨k1,u,⟨I,⟨L,D,E⟩,K,⟨⟨⟨G,F,C⟩,J⟩,A⟩,⟨⟨B,m,q⟩,z⟩,⟨t,n⟩,al⟩,c,O,v,w,o⟩,x⟩:=p
  obtain⟨N,R⟩:=hp
  simp only at N R
  have hrd:cm (bu l) k 0 24 true=some (.agg [a8 k1,aI u,a8 I,a8 L,ae D,a8 E,aI K,a8 G,ae F,a8 C,aI J,aI A,a8 B,ae m,a8 q,aI z,a8 t,ae n,x,aI c,aI O,a8 v,ae w,aB o]):=by simp[bu,hg',bW.val]
  have hlt':(k:Int)<l.length:=by omega
  cases P:ew ⟨k1,u,(⟨I,⟨L,D,E⟩,K,⟨⟨⟨G,F,C⟩,J⟩,A⟩,⟨⟨B,m,q⟩,z⟩,⟨t,n⟩,al⟩:aC),c,O,v,w,o⟩ with
  | false=>
   have hF:=hI.g.fr
   have hC:=F6 k1 u I L D E K G F C J A B m q z t n c O v w o N R
   rw[P]at hC
   have U:=λb1=>T (by rw[P];simp) _ ((hI.grow (bE.cons hF (dep+1) 9 b1)).g)
   refine vW _ _ _ _ _ _ _ _ λg=>?_
   clear T W ih hQ hI a P
   simp[ai, *,sW,f.r,f.idx,N.r]
   all_goals exact U _
  | true=>
   by_cases e1:k1=1
   ·subst e1
    have Z:uS us0 qs gr0 b ⟨1,u,(⟨I,⟨L,D,E⟩,K,⟨⟨⟨G,F,C⟩,J⟩,A⟩,⟨⟨B,m,q⟩,z⟩,⟨t,n⟩,al⟩:aC),c,O,v,w,o⟩=Gl us0 qs gr0 b ⟨1,u,(⟨I,⟨L,D,E⟩,K,⟨⟨⟨G,F,C⟩,J⟩,A⟩,⟨⟨B,m,q⟩,z⟩,⟨t,n⟩,al⟩:aC),c,O,v,w,o⟩:=rfl
    refine L4 f (by omega) X hI hrl (fi:=145) (fd:=148) (b':=Mv b (⟨1,u,(⟨I,⟨L,D,E⟩,K,⟨⟨⟨G,F,C⟩,J⟩,A⟩,⟨⟨B,m,q⟩,z⟩,⟨t,n⟩,al⟩:aC),c,O,v,w,o⟩,x)) (by kernel_rfl) (by kernel_rfl) 1 u I L D E K G F C J A B m q z t n c O v w o N R hrd (λg=>acd) P (ft:=Gl us0 qs gr0 b ⟨1,u,(⟨I,⟨L,D,E⟩,K,⟨⟨⟨G,F,C⟩,J⟩,A⟩,⟨⟨B,m,q⟩,z⟩,⟨t,n⟩,al⟩:aC),c,O,v,w,o⟩)
     (λH' M=>acp (dep+1) M.g.fr M.bk.at hok e d 1 u I L D E K G F C J A B m q z t n c O v w o N) ?_ ?_ ?_
    ·intro _ H' M
     obtain⟨H2,e1,Y,V⟩:=aco (dep+1) M.g.fr M.bk hok 1 u I L D E K G F C J A B m q z t n c O v w o N
     exact⟨H2,xh,e1,Y,V⟩
    ·intro h H' hG
     exact T (by rw[Z,h];simp) H' hG
    ·intro h H' xh' S h'
     exact W ⟨P,by rw[Z];exact h⟩ H' xh' S h'
   ·by_cases Y:k1=2
    ·subst Y
     have Z:uS us0 qs gr0 b ⟨2,u,(⟨I,⟨L,D,E⟩,K,⟨⟨⟨G,F,C⟩,J⟩,A⟩,⟨⟨B,m,q⟩,z⟩,⟨t,n⟩,al⟩:aC),c,O,v,w,o⟩=CO us0 qs gr0 b ⟨2,u,(⟨I,⟨L,D,E⟩,K,⟨⟨⟨G,F,C⟩,J⟩,A⟩,⟨⟨B,m,q⟩,z⟩,⟨t,n⟩,al⟩:aC),c,O,v,w,o⟩:=rfl
     refine L4 f (by omega) X hI hrl (fi:=149) (fd:=150) (b':=Mv b (⟨2,u,(⟨I,⟨L,D,E⟩,K,⟨⟨⟨G,F,C⟩,J⟩,A⟩,⟨⟨B,m,q⟩,z⟩,⟨t,n⟩,al⟩:aC),c,O,v,w,o⟩,x)) (by kernel_rfl) (by kernel_rfl) 2 u I L D E K G F C J A B m q z t n c O v w o N R hrd (λg=>acb) P (ft:=CO us0 qs gr0 b ⟨2,u,(⟨I,⟨L,D,E⟩,K,⟨⟨⟨G,F,C⟩,J⟩,A⟩,⟨⟨B,m,q⟩,z⟩,⟨t,n⟩,al⟩:aC),c,O,v,w,o⟩)
      (λH' M=>acn (dep+1) M.g.fr M.bk.at hok e d 2 u I L D E K G F C J A B m q z t n c O v w o N R) ?_ ?_ ?_
     ·intro _ H' M
      by_cases hc:c=0
      ·subst hc
       exact YT (dep+1) M.g.fr M.bk hok 2 u I L D E K G F C J A B m q z t n O v w o N R
      ·obtain⟨H2,e1,Y,V⟩:=acm (dep+1) M.g.fr M.bk hok 2 u I L D E K G F C J A B m q z t n c O v w o N hc
       have hd:wB b (⟨I,⟨L,D,E⟩,K,⟨⟨⟨G,F,C⟩,J⟩,A⟩,⟨⟨B,m,q⟩,z⟩,⟨t,n⟩,al⟩:aC) c ba=Mv b (⟨2,u,(⟨I,⟨L,D,E⟩,K,⟨⟨⟨G,F,C⟩,J⟩,A⟩,⟨⟨B,m,q⟩,z⟩,⟨t,n⟩,al⟩:aC),c,O,v,w,o⟩,x):=by simp[Mv,wB,hc,A0]
       rw[hd]at Y
       exact⟨H2,xh,e1,Y,V⟩
     ·intro h H' hG
      exact T (by rw[Z,h];simp) H' hG
     ·intro h H' xh' S h'
      exact W ⟨P,by rw[Z];exact h⟩ H' xh' S h'
    ·have V:k1=3:=by
      by_cases V:k1=3
      ·exact V
      ·simp[ew,e1,Y,V]at P
     subst V
     have Z:uS us0 qs gr0 b ⟨3,u,(⟨I,⟨L,D,E⟩,K,⟨⟨⟨G,F,C⟩,J⟩,A⟩,⟨⟨B,m,q⟩,z⟩,⟨t,n⟩,al⟩:aC),c,O,v,w,o⟩=Gk qs b ⟨3,u,(⟨I,⟨L,D,E⟩,K,⟨⟨⟨G,F,C⟩,J⟩,A⟩,⟨⟨B,m,q⟩,z⟩,⟨t,n⟩,al⟩:aC),c,O,v,w,o⟩:=rfl
     refine L4 f (by omega) X hI hrl (fi:=151) (fd:=153) (b':=Mv b (⟨3,u,(⟨I,⟨L,D,E⟩,K,⟨⟨⟨G,F,C⟩,J⟩,A⟩,⟨⟨B,m,q⟩,z⟩,⟨t,n⟩,al⟩:aC),c,O,v,w,o⟩,x)) (by kernel_rfl) (by kernel_rfl) 3 u I L D E K G F C J A B m q z t n c O v w o N R hrd (λg=>aca) P (ft:=Gk qs b ⟨3,u,(⟨I,⟨L,D,E⟩,K,⟨⟨⟨G,F,C⟩,J⟩,A⟩,⟨⟨B,m,q⟩,z⟩,⟨t,n⟩,al⟩:aC),c,O,v,w,o⟩)
      (λH' M=>ack (dep+1) M.g.fr M.bk.at hok e d 3 u I L D E K G F C J A B m q z t n c O v w o N) ?_ ?_ ?_
     ·intro h H' M
      obtain⟨H2,e1,Y,V⟩:=acj (dep+1) M.g.fr M.bk hok 3 u I L D E K G F C J A B m q z t n c O v w o N d (by simpa [Gk] using h)
      exact⟨H2,xh,e1,Y,V⟩
     ·intro h H' hG
      exact T (by rw[Z,h];simp) H' hG
     ·intro h H' xh' S h'
      exact W ⟨P,by rw[Z];exact h⟩ H' xh' S h'
end
end
section
attribute [local simp] aG ay aw aF aE bQ gX aM aA aD bI bH bn aN aj bf fe
theorem Rh{f:FuncId}(g:(env.mode f == 2)=false)(d:Bool)(dep:Nat){H:aa}(r:Ref){args xs:List AV}(l:args.mapM (view H.get depth)=some xs)(k:ck H.get args=[]){y:AV}(h:ak env f xs=some y) :
 nI env d (ak env) (bD env dep) H r (some (.fn (.func f) [] [])) args=some ((az r depth y []).1,keyed r 0 (BQ true (az r depth y []).2) H):=by
 have c:env.mode f≠2:=by simpa using g
 have e:([]++args++[]:List AV)=args:=by simp
 unfold nI
 simp only[kJ,if_neg c,e,l,h,k]
 simp[kB,na,GN]
section
variable{m j:AV}{us:List Clear}{qs:List ah}{gr:Int}(b:Sl 3 (bR us) m)(a:Sl 5 (bL qs) j)(i:us.length<1000000)(n:qs.length<1000000)
include b a i n
theorem abc(dep d t:Nat){gg:Nat}{H:aa}(y:Fr H)(p:gg=H.gen d t) : ∃l o u w H',nI env false (ak env) (bD env dep) H ⟨d,t,gg,0⟩ (some (.fn (.func 160) [] [])) [.agg [m,j,aI gr]]=some (.agg [l,o,aI gr],H')/\bE H H'/\jV 3 (bR us) H' l u/\jV 5 (bL qs) H' o w:=by
 subst p
 have B:=RN (gr:=gr) b a (by omega) (by omega)
 have v:=wD b
 have z:=wD a
 generalize sM m=l at *
 generalize sM j=o at *
 have x:=Rh (H:=H) (f:=160) (by kernel_rfl) false dep ⟨d,t,H.gen d t,0⟩ (args:=[.agg [m,j,aI gr]]) (by simp[b.r,a.r]) (by simp[b.r,a.r]) B
 rw[x]
 have e : ∀(q:Ref)(c:bw),H.get q=some c ->∀k,(⟨d,t,H.gen d t,k⟩:Ref)≠q:=by
  intro q c a k
  have A:(H.get q).isSome=true:=by rw[a];rfl
  exact qM y A _ _ _
 rcases v with ⟨rfl,h⟩ | rfl | ⟨rfl,h⟩<;>rcases z with ⟨rfl,g⟩ | rfl | ⟨rfl,g⟩
 ·simp[az,BQ,keyed]
  refine⟨ba,ba,ba,ba,_,⟨⟨by simp,by simp⟩,rfl⟩,⟨?_,λq c a=>?_⟩,.inl ⟨rfl,.inl ⟨rfl,h⟩⟩,.inl ⟨rfl,.inl ⟨rfl,g⟩⟩⟩
  ·simp(maxDischargeDepth:=12) [ek, *]
  ·simp[e q c a,a]
 ·simp[az,BQ,keyed]
  refine⟨ba,.cG ⟨d,t,H.gen d t,0⟩ 0 (bL qs).length none,ba,.cD 5 (bL qs) none,_,⟨⟨by simp,by simp⟩,rfl⟩,⟨?_,λq c a=>?_⟩,.inl ⟨rfl,.inl ⟨rfl,h⟩⟩,.inr ⟨_,none,rfl,by simp,rfl,de _⟩⟩
  ·simp(maxDischargeDepth:=12) [ek, *]
  ·simp[e q c a,a]
 ·simp[az,BQ,keyed]
  refine⟨ba,.cG ⟨d,t,H.gen d t,0⟩ 0 0 (some 0),ba,.cD 5 (bL qs) (some 0),_,⟨⟨by simp,by simp⟩,rfl⟩,⟨?_,λq c a=>?_⟩,.inl ⟨rfl,.inl ⟨rfl,h⟩⟩,.inr ⟨_,some 0,by rw[g];rfl,by simp[g],rfl,by rw[g];simp⟩⟩
  ·simp(maxDischargeDepth:=12) [ek, *]
  ·simp[e q c a,a]
 ·simp[az,BQ,keyed]
  refine⟨.cG ⟨d,t,H.gen d t,0⟩ 0 (bR us).length none,ba,.cD 3 (bR us) none,ba,_,⟨⟨by simp,by simp⟩,rfl⟩,⟨?_,λq c a=>?_⟩,.inr ⟨_,none,rfl,by simp,rfl,de _⟩,.inl ⟨rfl,.inl ⟨rfl,g⟩⟩⟩
  ·simp(maxDischargeDepth:=12) [ek, *]
  ·simp[e q c a,a]
 ·simp[az,BQ,keyed]
  refine⟨.cG ⟨d,t,H.gen d t,0⟩ 0 (bR us).length none,.cG ⟨d,t,H.gen d t,1⟩ 0 (bL qs).length none,.cD 3 (bR us) none,.cD 5 (bL qs) none,_,⟨⟨by simp,by simp⟩,rfl⟩,⟨?_,λq c a=>?_⟩,.inr ⟨_,none,rfl,by simp,rfl,de _⟩,.inr ⟨_,none,rfl,by simp,rfl,de _⟩⟩
  ·simp(maxDischargeDepth:=12) [ek, *]
  ·simp[e q c a,a]
 ·simp[az,BQ,keyed]
  refine⟨.cG ⟨d,t,H.gen d t,0⟩ 0 (bR us).length none,.cG ⟨d,t,H.gen d t,1⟩ 0 0 (some 0),.cD 3 (bR us) none,.cD 5 (bL qs) (some 0),_,⟨⟨by simp,by simp⟩,rfl⟩,⟨?_,λq c a=>?_⟩,.inr ⟨_,none,rfl,by simp,rfl,de _⟩,.inr ⟨_,some 0,by rw[g];rfl,by simp[g],rfl,by rw[g];simp⟩⟩
  ·simp(maxDischargeDepth:=12) [ek, *]
  ·simp[e q c a,a]
 ·simp[az,BQ,keyed]
  refine⟨.cG ⟨d,t,H.gen d t,0⟩ 0 0 (some 0),ba,.cD 3 (bR us) (some 0),ba,_,⟨⟨by simp,by simp⟩,rfl⟩,⟨?_,λq c a=>?_⟩,.inr ⟨_,some 0,by rw[h];rfl,by simp[h],rfl,by rw[h];simp⟩,.inl ⟨rfl,.inl ⟨rfl,g⟩⟩⟩
  ·simp(maxDischargeDepth:=12) [ek, *]
  ·simp[e q c a,a]
 ·simp[az,BQ,keyed]
  refine⟨.cG ⟨d,t,H.gen d t,0⟩ 0 0 (some 0),.cG ⟨d,t,H.gen d t,1⟩ 0 (bL qs).length none,.cD 3 (bR us) (some 0),.cD 5 (bL qs) none,_,⟨⟨by simp,by simp⟩,rfl⟩,⟨?_,λq c a=>?_⟩,.inr ⟨_,some 0,by rw[h];rfl,by simp[h],rfl,by rw[h];simp⟩,.inr ⟨_,none,rfl,by simp,rfl,de _⟩⟩
  ·simp(maxDischargeDepth:=12) [ek, *]
  ·simp[e q c a,a]
 ·simp[az,BQ,keyed]
  refine⟨.cG ⟨d,t,H.gen d t,0⟩ 0 0 (some 0),.cG ⟨d,t,H.gen d t,1⟩ 0 0 (some 0),.cD 3 (bR us) (some 0),.cD 5 (bL qs) (some 0),_,⟨⟨by simp,by simp⟩,rfl⟩,⟨?_,λq c a=>?_⟩,.inr ⟨_,some 0,by rw[h];rfl,by simp[h],rfl,by rw[h];simp⟩,.inr ⟨_,some 0,by rw[g];rfl,by simp[g],rfl,by rw[g];simp⟩⟩
  ·simp(maxDischargeDepth:=12) [ek, *]
  ·simp[e q c a,a]
def A1(us:List Clear)(gr:Int):eH:=⟨us,gr,[],[],[]⟩
def oD(us:List Clear)(qs:List ah)(gr:Int)(l:List (bW × AV)):Option eH:=if tY us qs gr=true/\l.length<=2048 then QN us qs gr (A1 us gr) l else none
theorem Vy{l:List (bW × AV)}{F:AV}(C:Sl 24 (bu l) F)(B : ∀p∈l,tA p)(dep:Nat){H:aa}(X:Fr H) :
 ∃y H',bD env dep (.fn 100) [.agg [m,j,aI gr],F] H=some (y,H')/\JE H us qs gr (l.map LF) (oD us qs gr l) y H':=by
 have E:bF env Tryz.f100 (dep+1) [.code MG] (tK 0 [.agg [m,j,aI gr],F]) H λy H'=>JE H us qs gr (l.map LF) (oD us qs gr l) y H':=by
  have L:=D6 (gr:=gr) b a (by omega) (by omega)
  have o : ∀b1:bw,bE H ((⟨dep+1,2,H.gen (dep+1) 2,0⟩,some b1) :: H):=λb1=>bE.cons X _ _ _
  refine Lz _ _ _ _ _ λg=>?_
  have k : ¬(tY us qs gr=true/\l.length<=2048) ->∀H',bE H H'->JE H us qs gr (l.map LF) (oD us qs gr l) (.tup [.v (.pointer none),aB false]) H':=λP H' D=>by
   unfold oD;rw[if_neg P];exact⟨rfl,D⟩
  cases hp:tY us qs gr with
  | false=>
   rw[hp]at L k
   have e:=λb1=>k (by simp) _ (o b1)
   simp[ai, *,vE,C.r,b.r,a.r,bad]
   all_goals exact e _
  | true=>
   rw[hp]at L
   by_cases J:l.length<=2048
   ·have K : ¬(2048:Int)<l.length:=by omega
    obtain⟨V,R,U,S,d,hT,D,O,N⟩:=abc (gr:=gr) b a i n (dep+1) (dep+1) 20 (gg:=H.gen (dep+1) 20) (o ⟨3,[.agg [m,j,aI gr]],false,false⟩).fr (by simp)
    have u:=D.fr
    have A:=(o _).trans D
    have Z:=O.s.cells
    have c2:=N.s.cells
    have I:=λH=>YS true (dep+1) H (dep+1) 25
    clear k
    simp[ai, *,vE,C.r,b.r,a.r,bad,I]
    have G:oD us qs gr l=QN us qs gr (A1 us gr) l:=by unfold oD;rw[if_pos ⟨hp,J⟩]
    refine YH (rb:=⟨dep+1,24,d.gen (dep+1) 24,0⟩) (rs:=⟨dep+1,21,d.gen (dep+1) 21,0⟩) (ru:=⟨dep+1,22,d.gen (dep+1) 22,0⟩) (rk:=⟨dep+1,25,d.gen (dep+1) 25,0⟩) (gr0:=gr) (dep:=dep) (H0:=H)
     (Q:=λy H'=>JE H us qs gr (l.map LF) (oD us qs gr l) y H') C J B i n l 0 (A1 us gr) [] _ ba ba rfl (by omega) rfl ⟨λp h=>(by cases h),λp h=>(by cases h),λp h=>(by cases h),(by simp[A1]),(by simpa [A1] using i)⟩ (by simp[A1]) ?_ (λy H' h=>by rw[G];exact h)
    have z : ∀b1 b2 b3 M:bw,bE d ((⟨dep+1,25,d.gen (dep+1) 25,0⟩,some M) :: (⟨dep+1,24,d.gen (dep+1) 24,0⟩,some b3) :: (⟨dep+1,22,d.gen (dep+1) 22,0⟩,some b2) :: (⟨dep+1,21,d.gen (dep+1) 21,0⟩,some b1) :: d):=λb1 b2 b3 M=>⟨by simp(maxDischargeDepth:=12) [ek, *],λq c a=>by
     have Y:(d.get q).isSome=true:=by rw[a];rfl
     simp[dH u Y,a]⟩
    have w : ∀t,H.get ⟨dep+1,t,d.gen (dep+1) t,0⟩=none:=λt=>by
     cases x:H.get ⟨dep+1,t,d.gen (dep+1) t,0⟩ with
     | none=>rfl
     | some c=>have:=A.old _ _ x;rw[Mo u]at this;cases this
    refine⟨A.trans (z _ _ _ _),⟨⟨m,j,V,R,U,S,?_,b,a,O.grow (z _ _ _ _),N.grow (z _ _ _ _)⟩,?_,?_,.inl ⟨rfl,rfl⟩,⟨rfl,rfl⟩,?_,λr x=>(by cases x)⟩,.inl ⟨rfl,rfl⟩,λr x=>(by cases x),λr x=>(by cases x),?_,⟨rfl,rfl,rfl,rfl⟩,⟨w _,w _,w _⟩⟩
    ·simp[A1]
    ·simp[A1,cB]
    ·simp[A1,cB]
    ·simp[AV.at?]
    ·simp
   ·have K:(2048:Int)<l.length:=by omega
    have e:=λb1=>k (by simp[J]) _ (o b1)
    simp[ai, *,vE,C.r,b.r,a.r,bad]
    all_goals exact e _
 obtain⟨y,H',W,T⟩:=mJ (f:=100) (by kernel_rfl) (by kernel_rfl) (by kernel_rfl) (by kernel_rfl) (by kernel_rfl) E
 exact⟨y,H',W,T⟩
end
end
section
attribute [local simp] aG ay aw aF aE bQ gX aM aA aD bI bH bn aN aj bf fe
def pf(o:Option eH)(k:Int)(zero:AV)(R:eH->AV->aa->Prop)(y:AV)(H:aa):Prop:=match o with
 | none=>y = .tup [zero,aI 8]
 | some b=>if k=0 then R b y H else y = .tup [zero,aI k]
section
variable{j f:AV}{us:List Clear}{qs:List ah}{gr:Int}(e:Sl 3 (bR us) j)(h:Sl 5 (bL qs) f)(d:us.length<1000000)(c:qs.length<1000000){l:List (bW × AV)}{i:AV}(g:Sl 24 (bu l) i)(a : ∀p∈l,tA p)
include e h d c g a
end
end
section
attribute [local simp] aG ay aw aF aE bQ gX aM aA aD bI bH bn aN aj bf fe
theorem zq{E:Env}{f:FuncId}{fn:Func}{c:Code}{args:List AV}{R:AV->Prop}(I:E.spec f args=none)(J:E.allowed f=true)(N:E.P.funcs[f]?=some fn)(M:fn.body=some c)(S:Nat.ble args.length fn.ntmps=true)
 (h:bF E fn 0 [.code c] (tK 0 args) [] λx H =>∃y,handed E f x H y/\R y) : ∃y,ak E f args=some y/\R y:=by
 obtain⟨x,H,⟨y,v,O⟩,n,U⟩:=h.h (λ_=>AV.undef) args λi=>(IT args i).symm
 refine⟨y,xy.2 ⟨n,λm L=>?_⟩,O⟩
 obtain⟨st,G,T,K⟩:=U m L
 subst K
 unfold cS
 rw[I]
 unfold wE
 simp only[J,if_true,N,M,if_pos (MY S),G,T,Option.map_some]
 unfold handed at v
 split
 ·rename_i G
  rw[if_pos G]at v
  rw[if_pos v.1]
  exact v.2
 ·rename_i G
  rw[if_neg G]at v
  exact v
def RX(v:iI)(p:bW × AV):Bool:=decide (p.1.kind=3)||qS ⟨p.1.op.h.lv,p.1.op.h.cats⟩ v
section
variable{recs:List (bW × AV)}(g:recs.length<=2048)(k : ∀p∈recs,tA p){dep:Nat}{q:Ref}(e:q.t≠30/\q.t≠6){C:AV}(j : ∀r,C.at?=some r->r.t=62)(D:UInt8)(F:UInt32){Q:AV->aa->Prop}
include g k e j
end
section
variable{A z:AV}{us:List Clear}{qs:List ah}{gr:Int}(o:Sl 3 (bR us) A)(u:Sl 5 (bL qs) z)(d:us.length<1000000)(b:qs.length<1000000){l:List (bW × AV)}{w:AV}(B:Sl 24 (bu l) w)(a : ∀p∈l,tA p)
include o u d b B a
end
end
section
attribute [local simp] aG ay aw aF aE bQ gX aM aA aD bI bH bn aN aj bf fe
theorem LO(T:UInt8)(X:UInt8)(I:UInt32)(L:UInt8)(V:Int)(R:UInt8)(M:UInt32)(G:UInt8)(U:Int)(o:Int)(u:UInt8)(a:UInt32)(i:UInt8)(n:Int)(k:UInt8)(b:UInt32)(O:UInt8)(J:UInt8)(S:UInt32)(P:UInt8)(H:Int)(N:UInt8)(W:UInt32)(K:UInt8)(Q:Int)(h:Int)(v:UInt8)(e:UInt32)(q:UInt8)(c:Int)(w:UInt8)(t:UInt32){x y:AV}{l m:List Int}(f:Sl 1 (rows l) x)(B:Sl 1 (rows m) y)(A:l.length<1000000000)(z:m.length<1000000000):ak env 62 [.agg [a8 T,a8 X,ae I,a8 L,aI V,a8 R,ae M,a8 G,aI U,aI o,a8 u,ae a,a8 i,aI n,a8 k,ae b,x],.agg [a8 O,a8 J,ae S,a8 P,aI H,a8 N,ae W,a8 K,aI Q,aI h,a8 v,ae e,a8 q,aI c,a8 w,ae t,y]]=some (aB (nF (⟨T,⟨X,I,L⟩,V,⟨⟨⟨R,M,G⟩,U⟩,o⟩,⟨⟨u,a,i⟩,n⟩,⟨k,b⟩,l⟩:aC) (⟨O,⟨J,S,P⟩,H,⟨⟨⟨N,W,K⟩,Q⟩,h⟩,⟨⟨v,e,q⟩,c⟩,⟨w,t⟩,m⟩:aC))):=by
 refine an rfl (by kernel_rfl) (y8 _ _ _ _ λg=>?_)
 have j:=Ve f B (by omega)
 have hr:=f.r
 have Y:=B.r
 unfold nF
 cases c1:decide (T=O) with
 | false=>simp[ai, *,cV,fw,bM]
 | true=>
 cases c2:(decide (X=J)&&decide (I=S)&&decide (L=P)) with
 | false=>simp[ai, *,cV,fw,bM]
 | true=>
 cases c3:decide (V=H) with
 | false=>simp[ai, *,cV,fw,bM]
 | true=>
 cases c4:(decide (R=N)&&decide (M=W)&&decide (G=K)&&decide (U=Q)&&decide (o=h)) with
 | false=>simp[ai, *,cV,fw,bM]
 | true=>
 cases Z:(decide (u=v)&&decide (a=e)&&decide (i=q)&&decide (n=c)) with
 | false=>simp[ai, *,cV,fw,bM]
 | true=>
 cases c6:(decide (k=w)&&decide (b=t)) with
 | false=>simp[ai, *,cV,fw,bM]
 | true=>simp[ai, *,cV,fw,bM]
theorem Yd(k1 Z:UInt8)(Y u2:Int)(T:UInt8)(X:UInt8)(I:UInt32)(L:UInt8)(V:Int)(R:UInt8)(M:UInt32)(G:UInt8)(U:Int)(o:Int)(u:UInt8)(a:UInt32)(i:UInt8)(n:Int)(k:UInt8)(b:UInt32)(O:UInt8)(J:UInt8)(S:UInt32)(P:UInt8)(H:Int)(N:UInt8)(W:UInt32)(K:UInt8)(Q:Int)(h:Int)(v:UInt8)(e:UInt32)(q:UInt8)(c:Int)(w:UInt8)(t:UInt32)(c1 c2 g1 g2:Int)(v1 v2:UInt8)(w1 w2:UInt32)(o1 o2:Bool){x y:AV}{l m:List Int}(f:Sl 1 (rows l) x)(B:Sl 1 (rows m) y)(A:l.length<1000000000)(z:m.length<1000000000) :
 ak env 80 [.agg [a8 k1,aI Y,a8 T,a8 X,ae I,a8 L,aI V,a8 R,ae M,a8 G,aI U,aI o,a8 u,ae a,a8 i,aI n,a8 k,ae b,x,aI c1,aI g1,a8 v1,ae w1,aB o1],.agg [a8 Z,aI u2,a8 O,a8 J,ae S,a8 P,aI H,a8 N,ae W,a8 K,aI Q,aI h,a8 v,ae e,a8 q,aI c,a8 w,ae t,y,aI c2,aI g2,a8 v2,ae w2,aB o2]] =
  some (aB (m0 ⟨k1,Y,(⟨T,⟨X,I,L⟩,V,⟨⟨⟨R,M,G⟩,U⟩,o⟩,⟨⟨u,a,i⟩,n⟩,⟨k,b⟩,l⟩:aC),c1,g1,v1,w1,o1⟩ ⟨Z,u2,(⟨O,⟨J,S,P⟩,H,⟨⟨⟨N,W,K⟩,Q⟩,h⟩,⟨⟨v,e,q⟩,c⟩,⟨w,t⟩,m⟩:aC),c2,g2,v2,w2,o2⟩)):=by
 refine an rfl (by kernel_rfl) (y5 _ _ _ _ λg=>?_)
 have j:=LO T X I L V R M G U o u a i n k b O J S P H N W K Q h v e q c w t f B A z
 have hr:=f.r
 have hr2:=B.r
 unfold m0
 cases e1:decide (k1=Z) with
 | false=>simp[ai, *,fc,fw,bM]
 | true=>
 cases e2:decide (Y=u2) with
 | false=>simp[ai, *,fc,fw,bM]
 | true=>
 cases e3:nF (⟨T,⟨X,I,L⟩,V,⟨⟨⟨R,M,G⟩,U⟩,o⟩,⟨⟨u,a,i⟩,n⟩,⟨k,b⟩,l⟩:aC) (⟨O,⟨J,S,P⟩,H,⟨⟨⟨N,W,K⟩,Q⟩,h⟩,⟨⟨v,e,q⟩,c⟩,⟨w,t⟩,m⟩:aC) with
 | false=>simp[ai, *,fc,fw,bM]
 | true=>
 cases e4:decide (c1=c2) with
 | false=>simp[ai, *,fc,fw,bM]
 | true=>simp[ai, *,fc,fw,bM]
theorem V5{a b:aC}(h:nF a b=true):a=b:=by
 obtain⟨P,⟨X,M,S⟩,R,⟨⟨⟨I,T,K⟩,Q⟩,e⟩,⟨⟨u,g,w⟩,c⟩,⟨G,k⟩,al⟩:=a
 obtain⟨W,⟨N,J,Y⟩,L,⟨⟨⟨V,U,O⟩,Z⟩,t⟩,⟨⟨v,q,i⟩,o⟩,⟨H,n⟩,bl⟩:=b
 simp[nF]at h
 simp[h]
theorem U5{a b:bW}(h:m0 a b=true):a=b:=by
 obtain⟨N,K,v,G,t,w,L,a8⟩:=a
 obtain⟨b1,b2,b3,H,I,J,u,M⟩:=b
 simp only[m0,aY,decide_eq_true_eq]at h
 obtain⟨n,c,i,o,g,⟨q,e⟩,k⟩:=h
 rw[n,c,V5 i,o,g,q,e,k]
theorem Iz(a:bW):m0 a a=true:=by simp[m0,nF]
def MP(l:List (bW × AV)):List bW:=l.map (·.1)
@[simp] theorem aiW(l:List (bW × AV)):(MP l).length=l.length:=by simp[MP]
theorem SK(a b:bW):m0 a b=true↔a=b:=⟨U5,λh=>by rw[h];exact Iz b⟩
theorem aab{p q:bW × AV}(hp:tA p)(j:tA q):ak env 80 [p.1.val p.2,q.1.val q.2]=some (aB (m0 p.1 q.1)):=by
 obtain⟨⟨k,u,⟨U,⟨a_2,R,X⟩,W,⟨⟨⟨N,Y,P⟩,V⟩,b⟩,⟨⟨I,e,K⟩,a⟩,⟨L,i⟩,l⟩,c,g,v,w,o⟩,x⟩:=p
 obtain⟨⟨k',u',⟨b_1,⟨S,O,b_4⟩,Q,⟨⟨⟨b_6,Z,T⟩,b_9⟩,H⟩,⟨⟨J,G,h⟩,t⟩,⟨M,n⟩,m⟩,c',g',v',w',o'⟩,y⟩:=q
 exact Yd k k' u u' U a_2 R X W N Y P V b I e K a L i b_1 S O b_4 Q b_6 Z T b_9 H J G h t M n c c' g g' v v' w w' o o' hp.1 j.1 (by have:=hp.2;simp at this;omega) (by have:=j.2;simp at this;omega)
def AW:List bW->List bW->Bool
 | [],[]=>true
 | a :: l,b :: m=>m0 a b&&AW l m
 | _,_=>false
theorem Ky : ∀(l m:List bW),AW l m=true↔l=m:=by
 intro l
 induction l with
 | nil=>intro m;cases m<;>simp[AW]
 | cons a l c=>intro m;cases m with
  | nil=>simp[AW]
  | cons b m=>simp[AW,SK,c]
theorem SL{l m:List bW}(h:l.length≠m.length):AW l m=false:=by
 cases e:AW l m with
 | false=>rfl
 | true=>exact absurd (congrArg List.length ((Ky l m).1 e)) h
section
variable{l m:List (bW × AV)}{x y:AV}(f:Sl 24 (bu l) x)(B:Sl 24 (bu m) y)(A : ∀p∈l,tA p)(z : ∀p∈m,tA p)(C:l.length<1000000)
include f B A z C
theorem LK(v:l.length=m.length){Q:AV->aa->Prop}{H:aa} : ∀(s t:List (bW × AV)) (k:Nat) (i:Int),l.drop k=s->m.drop k=t->k<=l.length->i=k->(Q (aB (AW (MP s) (MP t))) H) ->
 bF env Tryz.f22 0 gl [(5,aI i),(1,y),(0,x)] H Q:=by
 intro s
 induction s with
 | nil=>
  rintro t k i hs ht hk rfl hQ
  obtain rfl:=drop_nil hs hk
  rw[v,Px]at ht
  subst ht
  refine nE _ _ _ _ _ λg=>?_
  simp[ai, *,gp,f.r]
  all_goals simpa [MP,AW] using hQ
 | cons p s M=>
  rintro t k i hs ht hk rfl hQ
  obtain⟨R,P,G,w⟩:=drop_cons hs
  have K:k<m.length:=by omega
  obtain⟨q,t',rfl⟩ : ∃q t',t=q :: t':=by
   cases t with
   | nil=>have:=congrArg List.length ht;simp at this;omega
   | cons q t'=>exact⟨q,t',rfl⟩
  obtain⟨_,I,J,b⟩:=drop_cons ht
  have c:=A p (P ▸ mq _)
  have h:=z q (I ▸ mq _)
  have j:=aab c h
  have S:=IntWalk.i64_in ((k:Int)+1) (by omega)
  have n:=M t' (k+1) ((k:Int)+1) G J (by omega) (by simp)
  have O:=c.1.r
  have N:=h.1.r
  have u:cm (bu l) k 0 24 true=some (p.1.val p.2):=by simp[bu,w,bW.val]
  have o:cm (bu m) k 0 24 true=some (q.1.val q.2):=by simp[bu,b,bW.val]
  have a:Q (aB (m0 p.1 q.1&&AW (MP s) (MP t'))) H:=hQ
  clear M hQ A z
  unfold bW.val at j u o
  generalize m0 p.1 q.1=e at *
  refine nE _ _ _ _ _ λg=>?_
  cases e with
  | false=>simp[ai, *,gp,f.r,f.idx,B.r,B.idx];simpa using a
  | true=>
   rw[nX]at a
   have L:=n a
   clear n a
   simp[ai, *,gp,f.r,f.idx,B.r,B.idx]
theorem SV:ak env 22 [x,y]=some (aB (AW (MP l) (MP m))):=by
 refine an rfl (by kernel_rfl) (vY _ _ _ _ λg=>?_)
 by_cases a:l.length=m.length
 ·have h:=LK f B A z C a (Q:=λv H=>handed env 22 v H (aB (AW (MP l) (MP m)))) (H:=[]) l m 0 0 rfl rfl (by omega) rfl (by simp)
  have b:=f.r
  have c:=B.r
  rw[eY]at b c
  rw[a]at b
  clear A z
  simp[ai, *,k6]
  exact h
 ·have e : ¬(l.length:Int)=m.length:=by omega
  rw[SL (by simpa using a)]
  clear A z
  simp[ai, *,k6,f.r,B.r]
end
section
variable{D E:AV}{us:List Clear}{qs:List ah}{gr:Int}(F:Sl 3 (bR us) D)(j:Sl 5 (bL qs) E){l:List (bW × AV)}{x:AV}(f:Sl 24 (bu l) x)(A : ∀p∈l,Sl 1 (rows p.1.op.l) p.2)(d:Int)
include F j f A
theorem Q6{q:Ref}{Q:AV->aa->Prop}{H:aa}(Y:H.get q=some ⟨3,[.agg [D,E,aI gr]],false,false⟩)(o : ∀t:Bool,(t=false->us.length<=100/\qs.length<=100/\(l.length:Int)<=d /\∀p∈l.take 300,p.1.op.l.length<=300)->Q (aB t) H) :
 ∀(s:List (bW × AV)) (k:Nat) (i n:Int),l.drop k=s->k<=l.length->i=k->k<=300->0<=n->n<=1000 * k->(∀p∈l.take k,min (p.1.op.l.length:Int) 1000<=n) ->
 bF env Tryz.f13 0 fl [(8,aI i),(1,x),(7,aI n),(2,aI d),(3,.ptr q 0 0)] H Q:=by
 intro s
 have hG:=Vr gr F j
 have a : ∀n:Int,(∀p∈l.take 300,min (p.1.op.l.length:Int) 1000<=n)->Q (aB (decide (100<(us.length:Int))||decide (100<(qs.length:Int))||decide (d<l.length)||decide (300<n))) H:=by
  intro n v
  refine o _ λh=>?_
  simp at h
  refine⟨by omega,by omega,by omega,λp hp=>?_⟩
  have:=v p hp
  omega
 generalize (decide (100<(us.length:Int))||decide (100<(qs.length:Int)))=gg at *
 induction s with
 | nil=>
  rintro k i n hs hk rfl K h0 v z
  obtain rfl:=drop_nil hs hk
  rw[HA]at z
  have c:=a n (λp hp=>z p (AQ hp))
  refine oL _ _ _ _ _ _ _ λg=>?_
  clear o a A z
  cases gg<;>by_cases e:d<l.length<;>simp[ai, *,ij,f.r,F.r,j.r]
  all_goals simpa [e] using c
 | cons p s u=>
  rintro k i n hs hk rfl K h0 v z
  obtain⟨X,V,G,b⟩:=drop_cons hs
  have R:=(A p (V ▸ mq _)).r
  have Z:=IntWalk.i64_in ((k:Int)+1) (by omega)
  refine oL _ _ _ _ _ _ _ λg=>?_
  have U:(k:Int)<l.length:=by omega
  by_cases M:k<300
  ·have w:(k:Int)<300:=by omega
   have P:cm (bu l) k 18 1 false=some p.2:=by simp[bu,b,bW.val]
   have O:cm (bu l) k 11 1 false=some (aI p.1.op.s.many):=by simp[bu,b,bW.val]
   have I:=λm (W:0<=m) (S:m<=1000) (K:min (p.1.op.l.length:Int) 1000<=m)=>u (k+1) ((k:Int)+1) (n+m) G (by omega) (by simp) (by omega) (by omega) (by omega) (by
    intro q j
    rw[Ll,b]at j
    rcases oH.1 j with j | j
    ·have:=z q j;omega
    ·simp at j;subst j;omega)
   have T:=λm (W:0<=m) (S:m<=1000)=>IntWalk.i64_in (n+m) (by omega)
   clear u o a A z
   simp[ai, *,ij,f.r,f.idx]
   rw[T _ (by repeat' split<;>omega) (by repeat' split<;>omega)]
   exact I _ (by repeat' split<;>omega) (by repeat' split<;>omega) (by repeat' split<;>omega)
  ·have J:k=300:=by omega
   subst J
   have c:=a n z
   have N:300<l.length:=by omega
   have L:(300:Int)<l.length:=by omega
   clear u o a A z
   cases gg<;>by_cases e:d<l.length<;>simp[ai, *,ij,f.r,F.r,j.r]
   all_goals simpa [e] using c
theorem Vz : ∃t:Bool,ak env 13 [.agg [D,E,aI gr],x,aI d]=some (aB t)/\(t=false->us.length<=100/\qs.length<=100/\(l.length:Int)<=d /\∀p∈l.take 300,p.1.op.l.length<=300):=by
 have h : ∃y,ak env 13 [.agg [D,E,aI gr],x,aI d]=some y /\∃t:Bool,y=aB t/\(t=false->us.length<=100/\qs.length<=100/\(l.length:Int)<=d /\∀p∈l.take 300,p.1.op.l.length<=300):=by
  refine zq (fn:=Tryz.f13) (c:=yw) (by kernel_rfl) (by kernel_rfl) (by kernel_rfl) (by kernel_rfl) (by kernel_rfl) ?_
  refine xW _ _ _ _ _ λg=>?_
  have a:=λ(q:Ref)(H:aa)(e:H.get q=some ⟨3,[.agg [D,E,aI gr]],false,false⟩)=>Q6 (q:=q) (H:=H) (Q:=λx H =>∃y,handed env 13 x H y /\∃t:Bool,y=aB t/\(t=false->us.length<=100/\qs.length<=100/\(l.length:Int)<=d /\∀p∈l.take 300,p.1.op.l.length<=300)) (gr:=gr) F j f A d e (λt i=>⟨aB t,by simp,t,rfl,i⟩) l 0 0 0 rfl (by omega) rfl (by simp) (by simp) (by simp) (by simp)
  have key : ∀Q:AV->aa->Prop,(∀(q:Ref)(H:aa),H.get q=some ⟨3,[.agg [D,E,aI gr]],false,false⟩->bF env Tryz.f13 0 fl [(8,aI 0),(1,x),(7,aI 0),(2,aI d),(3,.ptr q 0 0)] H Q)->mf g (.agg [D,E,aI gr]) x (aI d) [] Q:=by
   intro Q h
   clear a
   simp[ai, *,mf,F.r,j.r]
  exact key _ a
 obtain⟨y,k,t,rfl,b⟩:=h
 exact⟨t,k,b⟩
end
end
section
theorem Wc{us0:List Clear}{qs:List ah}{gr0:Int} : ∀(l:List (bW × AV)) {b b':eH},QN us0 qs gr0 b l=some b' ->∀p∈l,ew p.1=true
 | [],_,_,_=>by intro p hp;cases hp
 | q :: l,b,b',h=>by
  unfold QN at h
  split at h
  ·rename_i a
   intro p hp
   rcases nB.1 hp with rfl | hp
   ·exact a.1
   ·exact Wc l h p hp
  ·cases h
theorem ab4{us:List Clear}{qs:List ah}{gr:Int}{l:List (bW × AV)}{b:eH}(h:oD us qs gr l=some b) : ∀p∈l,ew p.1=true:=by
 unfold oD at h
 split at h
 ·exact Wc l h
 ·cases h
end
section
attribute [local simp] aG ay aw aF aE bQ gX aM aA aD bI bH bn aN aj bf fe
def Bl(h:mz)(B:Int)(p:bW × AV):Bool:=decide (p.1.kind=2)&&(decide (p.1.op.h=h)&&decide (p.1.op.serial=B))
def o7(h:mz)(B:Int)(l:List (bW × AV)):AV:=match l.find? (Bl h B)with | some p => .tup [aI p.1.code,aI 0] | none => .tup [aI 0,aI 6]
section
variable{recs:List (bW × AV)}(L:recs.length<=2048)(j : ∀p∈recs,tA p){dep:Nat}{q1 q2:Ref}{n:AV}(i:UInt8)(a:UInt32)(C:UInt8)(B:Int){Q:AV->aa->Prop}
include L j
theorem TZ : ∀(s:List (bW × AV)) (k:Nat) (H:aa),recs.drop k=s->k<=recs.length->Fr H->Own 24 (bu recs) H n->H.get q1=some ⟨3,[.agg [a8 i,ae a,a8 C]],false,false⟩->H.get q2=some ⟨1,[aI B],false,false⟩ ->
 (∀H',bE H H'->Q (o7 ⟨i,a,C⟩ B s) H')->bF env Tryz.f95 (dep+1) nj [(13,aI k),(2,.ptr q2 0 0),(1,.ptr q1 0 0),(11,n),(12,aI recs.length)] H Q:=by
 intro s
 induction s with
 | nil=>
  rintro k H hs hk hF hr hq1 hq2 hQ
  obtain rfl:=drop_nil hs hk
  have U:=hQ H (bE.refl hF)
  refine kQ _ _ _ _ _ _ _ _ λg=>?_
  clear hQ hr j
  unfold o7 at U
  simp[ai, *,jg]
  all_goals exact U
 | cons p s ih=>
  rintro k H hs hk hF hr hq1 hq2 hQ
  obtain⟨hlt,hg,Z,hg'⟩:=drop_cons hs
  have hp:=j p (hg ▸ mq hlt)
  have e3:=IntWalk.i64_in ((k:Int)+1) (by omega)
  have hlt':(k:Int)<recs.length:=by omega
  obtain⟨r,rfl,hr0⟩ : ∃r,n = .cG r 0 recs.length none/\H.get r=some ⟨24,bu recs,true,false⟩:=by
   rcases hr with ⟨rfl,h⟩ | ⟨r,rfl,h⟩
   ·have:=congrArg List.length h;simp at this;subst this;simp at hlt
   ·exact⟨r,by simp,h⟩
  have e : ∀b1:bw,bE H ((⟨dep+1,7,H.gen (dep+1) 7,0⟩,some b1) :: H):=λb1=>bE.cons hF _ _ _
  have d:=λ(h:Bl ⟨i,a,C⟩ B p=false) b1=>ih (k+1) _ Z (by omega) (e b1).fr (Own.grow hr (e b1)) ((e b1).old _ _ hq1) ((e b1).old _ _ hq2) (λH' hG=>by
   have:=hQ H' ((e b1).trans hG)
   unfold o7 at this ⊢
   rw[Hu,h]at this
   exact this)
  have b:=λ(h:Bl ⟨i,a,C⟩ B p=true) b1=>by
   have:=hQ _ (e b1)
   unfold o7 at this
   rw[Hu,h]at this
   exact this
  clear hQ ih
  obtain⟨⟨k1,u,⟨a_1,⟨t,f,q⟩,z,⟨⟨⟨a_6,Y,W⟩,a_9⟩,S⟩,⟨⟨T,M,O⟩,R⟩,⟨P,N⟩,al⟩,c,g1,v,w,o⟩,x⟩:=p
  obtain⟨y,hal⟩:=hp
  simp only at y hal
  have hrd:cm (bu recs) k 0 24 true=some (.agg [a8 k1,aI u,a8 a_1,a8 t,ae f,a8 q,aI z,a8 a_6,ae Y,a8 W,aI a_9,aI S,a8 T,ae M,a8 O,aI R,a8 P,ae N,x,aI c,aI g1,a8 v,ae w,aB o]):=by simp[bu,hg',bW.val]
  have hiB:Bl ⟨i,a,C⟩ B (⟨k1,u,(⟨a_1,⟨t,f,q⟩,z,⟨⟨⟨a_6,Y,W⟩,a_9⟩,S⟩,⟨⟨T,M,O⟩,R⟩,⟨P,N⟩,al⟩:aC),c,g1,v,w,o⟩,x)=(decide (k1=2)&&(decide ((⟨t,f,q⟩:mz)=⟨i,a,C⟩)&&decide (z=B))):=rfl
  have X:decide ((⟨t,f,q⟩:mz)=⟨i,a,C⟩)=(decide (t=i)&&decide (f=a)&&decide (q=C)):=by simp[and_assoc,yK]
  rw[hiB,X]at d b
  have lr:(H.get r).isSome=true:=by rw[hr0];rfl
  have l1:(H.get q1).isSome=true:=by rw[hq1];rfl
  have l2:(H.get q2).isSome=true:=by rw[hq2];rfl
  have hRl:(bu recs).length=recs.length:=eY recs
  clear hs Z hg hg' j hr hiB X
  generalize bu recs=er at *
  generalize recs.length=nr at *
  simp only at b
  by_cases e1:k1=2
  ·subst e1
   cases e2:(decide (t=i)&&decide (f=a)&&decide (q=C)) with
   | false=>
    have hn:=d (by rw[e2];simp)
    clear d b
    refine kQ _ _ _ _ _ _ _ _ λg=>?_
    simp[ai, *,jg,y.r,fw,bM]
    all_goals exact hn _
   | true=>
    by_cases V:z=B
    ·have hy:=b (by rw[e2];simp[V])
     subst V
     clear d b
     refine kQ _ _ _ _ _ _ _ _ λg=>?_
     simp[ai, *,jg,y.r,fw,bM]
     all_goals exact hy _
    ·have hn:=d (by rw[e2];simp[V])
     clear d b
     refine kQ _ _ _ _ _ _ _ _ λg=>?_
     simp[ai, *,jg,y.r,fw,bM]
     all_goals exact hn _
  ·have hn:=d (by simp[e1])
   clear d b
   refine kQ _ _ _ _ _ _ _ _ λg=>?_
   simp[ai, *,jg,y.r,fw,bM]
   all_goals exact hn _
end
section
variable{F E:AV}{us:List Clear}{qs:List ah}{gr:Int}(J:Sl 3 (bR us) F)(A:Sl 5 (bL qs) E)(G:us.length<1000000)(D:qs.length<1000000){l:List (bW × AV)}{K:AV}(I:Sl 24 (bu l) K)(m : ∀p∈l,tA p)
include J A G D I m
theorem Gs(dep:Nat){H:aa}(P:Fr H)(c:Int){fd:FuncId}(N:(env.mode fd == 2)=true){caps:List AV}{R:eH->AV->aa->Prop}
 (x:c=0 ->∀b d rb rs ru v n,oD us qs gr l=some b->bE H d->jk d rb rs ru v n us qs gr b->Own 24 (bu (l.map LF)) d n->(∀r,n.at?=some r->r.t=62)->q0 b ->∃z e u,bD env (dep+1) (.fn fd) ([]++[.ptr rb 0 0]++caps) d=some (.tup [z,e],u)/\R b (.tup [z,e]) u) :
 ∃y H',bD env dep (.fn 69) [.agg [F,E,aI gr],K,aI c,.fn (.func fd) [] caps] H=some (y,H')/\pf (oD us qs gr l) c (aI 0) R y H':=by
 have w:bF env Tryz.f69 (dep+1) [.code pC] (tK 0 [.agg [F,E,aI gr],K,aI c,.fn (.func fd) [] caps]) H λy H'=>pf (oD us qs gr l) c (aI 0) R y H':=by
  have h : ∀b1:bw,bE H ((⟨dep+1,4,H.gen (dep+1) 4,0⟩,some b1) :: H):=λb1=>bE.cons P _ _ _
  obtain⟨y,d,O,k⟩:=Vy (gr:=gr) J A G D I m (dep+1) (h ⟨3,[.agg [F,E,aI gr]],false,false⟩).fr
  refine pj _ _ _ _ _ _ _ λg=>?_
  unfold pf
  simp[ai, *,jS,I.r,J.r,A.r]
  refine xf (by kernel_rfl) O ?_
  cases q:oD us qs gr l with
  | none=>
   rw[q]at k
   obtain⟨rfl,S⟩:=k
   simp
  | some b=>
   rw[q]at k
   obtain⟨rb,rs,ru,rk,v,n,rfl,o,j⟩:=k
   by_cases M:c=0
   ·subst M
    obtain⟨z,e,u,i,a⟩:=x rfl b d rb rs ru v n q ((h _).trans o.g) o.bk o.row (λr e=>(o.t62 r e).1) j
    simp
    refine xf N i ?_
    simp
    exact a
   ·simp[M]
 obtain⟨y,H',i,a⟩:=mJ (f:=69) (by kernel_rfl) (by kernel_rfl) (by kernel_rfl) (by kernel_rfl) (by kernel_rfl) w
 exact⟨y,H',i,a⟩
theorem Pe(dep:Nat){H:aa}(hF:Fr H)(w:Int){fd:FuncId}(hm:(env.mode fd == 2)=true){caps:List AV}{f:eH->ah}
 (V:w=0 ->∀b v rb rs ru R n,oD us qs gr l=some b->bE H v->jk v rb rs ru R n us qs gr b->q0 b ->∃N,bD env (dep+1) (.fn fd) ([]++[.ptr rb 0 0]++caps) v=some (.tup [.agg (f b).enc,aI 0],N)/\bE v N) :
 ∃y H',bD env dep (.fn 97) [.agg [F,E,aI gr],K,aI w,.fn (.func fd) [] caps] H=some (y,H')/\pf (oD us qs gr l) w (.agg [a8 0,ae 0,aI 0,aI 0,aI 0]) (λb y _=>y = .tup [.agg (f b).enc,aI 0]) y H'/\bE H H':=by
 have U:bF env Tryz.f97 (dep+1) [.code pB] (tK 0 [.agg [F,E,aI gr],K,aI w,.fn (.func fd) [] caps]) H λy H'=>pf (oD us qs gr l) w (.agg [a8 0,ae 0,aI 0,aI 0,aI 0]) (λb y _=>y = .tup [.agg (f b).enc,aI 0]) y H'/\bE H H':=by
  have t : ∀b1 b2:bw,bE H ((⟨dep+1,8,H.gen (dep+1) 8,0⟩,some b2) :: (⟨dep+1,4,H.gen (dep+1) 4,0⟩,some b1) :: H):=λb1 b2=>⟨by simp(maxDischargeDepth:=12) [ek, *],λq c A=>by
   have X:(H.get q).isSome=true:=by rw[A];rfl
   simp[dH hF X,A]⟩
  obtain⟨y,v,hO,M⟩:=Vy (gr:=gr) J A G D I m (dep+1) (t ⟨3,[.agg [F,E,aI gr]],false,false⟩ ⟨5,[.agg [a8 0,ae 0,aI 0,aI 0,aI 0]],false,false⟩).fr
  have h : ∀(O:aa)(c:bw),bE H O->O.get ⟨dep+1,8,H.gen (dep+1) 8,0⟩=some c ->∀Z,bE H (O.put ⟨dep+1,8,H.gen (dep+1) 8,0⟩ (some Z)):=by
   intro O c z hc Z
   refine⟨z.fr.put _ (by rw[hc];rfl),λq d A=>?_⟩
   have X:(H.get q).isSome=true:=by rw[A];rfl
   rw[aa.get_put,if_neg (λe=>qM hF X _ _ _ e.symm)]
   exact z.old q d A
  refine ph _ _ _ _ _ _ _ λg=>?_
  unfold pf
  simp[ai, *,jR,I.r,J.r,A.r]
  refine xf (by kernel_rfl) hO ?_
  cases P:oD us qs gr l with
  | none=>
   rw[P]at M
   obtain⟨rfl,u⟩:=M
   have o:=u.old ⟨dep+1,8,H.gen (dep+1) 8,0⟩ _ (by simp;rfl)
   have W:=u.fr
   have k:=h v _ ((t _ _).trans u) o
   clear I m h
   simp[o,k]
  | some b=>
   rw[P]at M
   obtain⟨rb,rs,ru,rk,R,n,rfl,T,j⟩:=M
   have u:=T.g
   have o:=u.old ⟨dep+1,8,H.gen (dep+1) 8,0⟩ _ (by simp;rfl)
   have W:=u.fr
   by_cases Y:w=0
   ·subst Y
    obtain⟨N,i,a⟩:=V rfl b v rb rs ru R n P ((t _ _).trans T.g) T.bk j
    have x:=a.old _ _ o
    have hF3:=a.fr
    have k:=h N _ (((t _ _).trans u).trans a) x
    clear h
    simp
    refine xf hm i ?_
    cases S:f b with
    | mk f1 f2 f3 f4 f5=>
     simp[x,S,ah.enc,k]
   ·have k:=h v _ ((t _ _).trans u) o
    clear h
    simp[Y,o,k]
 obtain⟨y,H',i,a⟩:=mJ (f:=97) (by kernel_rfl) (by kernel_rfl) (by kernel_rfl) (by kernel_rfl) (by kernel_rfl) U
 exact⟨y,H',i,a⟩
end
end
section
theorem AB{a b:UInt32}:a &&& ~~~b=0 ↔ ∀i,a.toBitVec.getLsbD i=true->b.toBitVec.getLsbD i=true:=by
 rw[<-UInt32.toBitVec_inj]
 constructor
 ·intro h i c
  have:=congrArg (λz=>BitVec.getLsbD z i) h
  simp only[PI,PH,Lo,Ln,UInt32.toBitVec_ofNat]at this
  have e:i<32:=by
   rcases fE i 32 with h | h
   ·exact h
   ·rw[BitVec.getLsbD_of_ge _ _ h]at c;cases c
  simp[c,e]at this
  exact this
 ·intro h
  apply BitVec.eq_of_getLsbD_eq
  intro i c
  simp only[PI,PH,Lo,Ln]
  have:=h i
  cases f:a.toBitVec.getLsbD i with
  | false=>simp
  | true=>simp[this f]
theorem I4{a b c:iI}(f:qS a b=true)(e:qS b c=true):qS a c=true:=by
 simp only[qS,aY,decide_eq_true_eq]at f e ⊢
 exact⟨UInt8.le_trans f.1 e.1,AB.2 λi j=>AB.1 e.2 i (AB.1 f.2 i j)⟩
def Fx(v:iI)(o:aC):Bool:=qS (MB o) v
theorem Im(ents:List (bV × AV))(i j:bV):fP (gw i (aB true) ents) j=(decide (j=i)||fP ents j):=by
 unfold fP
 by_cases e:j=i
 ·subst e;rw[lY];simp
 ·rw[kK e];simp[e]
theorem Ah : ∀(a:List bV)(ents:List (bV × AV)) (j:bV),fP (vc ents a) j=(decide (j∈a)||fP ents j)
 | [],ents,j=>by simp
 | i :: a,ents,j=>by
  rw[Gt,Ah a,Im]
  by_cases e:j=i<;>simp[e]
theorem YL{s:wN}{i:bV}(h:i∈cp s):Pu i=⟨s.f.h.lv,s.f.h.cats⟩:=by
 unfold cp at h
 obtain⟨k,_,rfl⟩:=vd.1 h
 rfl
theorem YG{o:aC}(h:lT o=true)(k:o.kind=1):o.s.f.h=o.h:=by
 unfold lT C9 at h
 rw[if_pos k]at h
 simp only[aY,I7]at h
 exact(SM _ _).1 h.2.2.2.2.2.2.1
theorem Fv{v w:iI}(b:qS w v=true)(i:bV) : ∀(l:List aC)(out:List iI),wm out (l.filter (Fx v)) i w=wm out l i w
 | [],out=>rfl
 | o :: l,out=>by
  rw[Hy]
  by_cases e:Fx v o=true
  ·rw[if_pos e]
   exact Fv b i l _
  ·rw[if_neg e,Fv b i l out]
   have a:ky o i w=false:=by
    cases a:ky o i w with
    | false=>rfl
    | true=>
     unfold ky at a
     simp only[aY]at a
     exact absurd (I4 a.2.2 b) e
   show wm out l i w=wm (if ky o i w then tB out o.to else out) l i w
   rw[a];rfl
theorem K0{v:iI}{o:aC}(a:Fx v o=true)(l:List aC):kZ (l.filter (Fx v)) o=kZ l o:=by
 unfold kZ qm
 simp only[Fv a]
structure Pt (v:iI) (ops:List (aC × AV)) (ents:List (bV × AV)) (g:List (aC × AV)) (d:List (bV × AV)):Prop where
 opsE:opsOf g=(opsOf ops).filter (Fx v)
 there : ∀i,qS (Pu i) v=true->fP d i=fP ents i
 right:lV [] (opsOf ops)=true
 right':lV [] (opsOf g)=true
 len:ents.length<=64 * ops.length
 len':d.length<=64 * g.length
theorem Pt.lens{v:iI}{ops:List (aC × AV)}{ents:List (bV × AV)}{g:List (aC × AV)}{d:List (bV × AV)}(h:Pt v ops ents g d):g.length<=ops.length:=by
 have e:=congrArg List.length h.opsE
 have a:=PO (Fx v) (opsOf ops)
 simp only[opsOf,uD]at e a
 omega
theorem Kx{v:iI}{ents d:List (bV × AV)}(b : ∀i,qS (Pu i) v=true->fP d i=fP ents i){o:aC}(a:Fx v o=true)(i:bV):wc d o i=wc ents o i:=by
 unfold wc
 cases e:qS (Pu i) (MB o) with
 | false=>simp
 | true=>rw[b i (I4 e a)]
theorem Gg{v:iI}{ents d:List (bV × AV)}(b : ∀i,qS (Pu i) v=true->fP d i=fP ents i){o:aC}(a:Fx v o=true):sI d o=sI ents o:=by
 unfold sI
 simp only[Kx b a]
theorem any_congr{a:Type}{p q:a->Bool} : ∀ {l:List a},(∀x∈l,p x=q x)->l.any p=l.any q
 | [],_=>rfl
 | x :: l,h=>by
  rw[Hq,Hq,h x jB,any_congr λy b=>h y (iA _ b)]
theorem Ax{l:List aC}(h:lV [] l=true)(a:l.length<=2048):qV l=0:=by
 unfold qV
 rw[if_neg (by omega),if_pos h]
section
variable{v:iI}{ops:List (aC × AV)}{ents:List (bV × AV)}{g:List (aC × AV)}{d:List (bV × AV)}(h:Pt v ops ents g d)(m:ops.length<=100)
include h m
theorem W3{o:aC}(a:Fx v o=true)(f:lT o=true):wA g d o=wA ops ents o:=by
 have u:=h.lens
 have q:=h.len
 have p:=h.len'
 have t:=gI (kU f)
 have l:vk g d o=vk ops ents o:=by
  unfold vk
  by_cases c:o.kind=1
  ·rw[if_pos c,if_pos c]
   unfold fT
   have b:(cp o.s).any (fP d)=(cp o.s).any (fP ents):=any_congr λi n=>by
    refine h.there i ?_
    rw[YL n,YG f c]
    exact a
   rw[Kx h.there a,b,if_neg (show ¬8192<(d.length:Int)+o.s.many by omega),if_neg (show ¬8192<(ents.length:Int)+o.s.many by omega)]
  ·rw[if_neg c,if_neg c]
   by_cases e:o.kind=2
   ·rw[if_pos e,if_pos e]
    unfold Aj
    rw[Gg h.there a]
   ·rw[if_neg e,if_neg e]
    unfold Ak
    have j:qV (opsOf ops)=0:=Ax h.right (by simp[opsOf];omega)
    have k:qV (opsOf g)=0:=Ax h.right' (by simp[opsOf];omega)
    rw[Gg h.there a,j,k,h.opsE,K0 a]
 unfold wA
 rw[l,if_neg (by omega),if_neg (by omega)]
theorem Sa{o:aC}(a:wA ops ents o=0)(e:lT o=true):kZ (opsOf ops) o=true:=by
 unfold wA at a
 rw[if_neg (by omega)]at a
 unfold vk at a
 by_cases b:o.kind=3
 ·rw[if_neg (by rw[b];decide),if_neg (by rw[b];decide)]at a
  unfold Ak at a
  split at a
  ·cases a
  ·split at a
   ·rename_i c;exact c.2
   ·cases a
 ·unfold kZ
  rw[if_neg b]
end
theorem BE{l:List aC}{o:aC}(h:lV [] l=true)(b:lT o=true)(a:kZ l o=true):lV [] (l++[o])=true:=by
 rw[Qp,h,nX]
 show(lT o&&kZ ([]++l) o&&true)=true
 rw[w9,b,a];rfl
theorem m9(l:List (aC × AV))(p:aC × AV):opsOf (l++[p])=opsOf l++[p.1]:=by simp[opsOf]
def zA(ents:List (bV × AV))(o:aC):List (bV × AV):=if o.kind=1 then vc ents (cp o.s) else ents
theorem K4{ents:List (bV × AV)}{o:aC}(a:lT o=true):(zA ents o).length<=ents.length+64:=by
 have b:=gI (kU a)
 unfold zA
 split
 ·have:=Dm (cp o.s) ents
  have c:(cp o.s).length=o.s.many.toNat:=by simp[cp]
  omega
 ·omega
section
variable{v:iI}{ops:List (aC × AV)}{ents:List (bV × AV)}{g:List (aC × AV)}{d:List (bV × AV)}(h:Pt v ops ents g d)(m:ops.length<=100)
include h m
theorem Pt.low{p p':aC × AV}(e:p'.1=p.1)(b:Fx v p.1=true)(a:lT p.1=true)(f:wA ops ents p.1=0):lT p'.1=true/\wA g d p'.1=0/\Pt v (ops++[p]) (zA ents p.1) (g++[p']) (zA d p'.1):=by
 rw[e]
 have c:wA g d p.1=0:=by rw[W3 h m b a];exact f
 refine⟨a,c,?_,λi j=>?_,?_,?_,?_,?_⟩
 ·rw[m9,m9,h.opsE,PD,e]
  simp[b]
 ·unfold zA
  split
  ·rw[Ah,Ah,h.there i j]
  ·exact h.there i j
 ·rw[m9];exact BE h.right a (Sa h m f a)
 ·rw[m9,e]
  refine BE h.right' a ?_
  rw[h.opsE,K0 b]
  exact Sa h m f a
 ·have:=K4 (ents:=ents) a
  have:=h.len
  simp;omega
 ·have:=K4 (ents:=d) a
  have:=h.len'
  simp;omega
end
theorem Pt.nil(v:iI):Pt v [] [] [] []:=⟨rfl,λ_ _=>rfl,rfl,rfl,de _,de _⟩
theorem Df{p:aC × AV} : ∀ {s ops:List (aC × AV)} {ents:List (bV × AV)},ot ops ents (s++[p])=(ot ops ents s).bind λq=>if lT p.1=true/\wA q.1 q.2 p.1=0 then some (q.1++[p],zA q.2 p.1) else none
 | [],ops,ents=>by
  show(if lT p.1=true/\wA ops ents p.1=0 then ot (ops++[p]) (zA ents p.1) [] else none)=_
  rfl
 | q :: s,ops,ents=>by
  simp only[Py,ot]
  split
  ·exact Df
  ·rfl
theorem Mu{s:List (aC × AV)}{p:aC × AV}(h:nH s p.1=0):(ot [] [] (s++[p])).isSome=true:=by
 unfold nH at h
 rw[Df]
 cases b:ot [] [] s with
 | none=>rw[b]at h;cases h
 | some q=>
  obtain⟨O,E⟩:=q
  rw[b]at h
  dsimp only at h
  by_cases a:lT p.1=true
  ·rw[if_pos a]at h
   rw[fN,if_pos ⟨a,h⟩];rfl
  ·rw[if_neg a]at h;cases h
end
section
attribute [local simp] aG ay aw aF aE bQ gX aM aA aD bI bH bn aN aj bf fe
def wC(us:List Clear)(qs:List ah)(gr:Int)(l:List (bW × AV))(h:mz)(a:Int):AV:=match oD us qs gr l with
 | none => .tup [aI 0,aI 8]
 | some _=>if dZ h=true then o7 h a (l.map LF) else .tup [aI 0,aI 8]
theorem Di(h:mz)(c:Int)(l:List (bW × AV)) : ∃a b,o7 h c l = .tup [aI a,aI b]:=by
 unfold o7
 split
 ·exact⟨_,_,rfl⟩
 ·exact⟨_,_,rfl⟩
def DW(b:eH)(a:UInt8)(c:UInt32):ah:=⟨a,c,(pT (aV ⟨a,c⟩ b.used)).opens,(pT (aV ⟨a,c⟩ b.used)).ops,(pT (aV ⟨a,c⟩ b.used)).cells⟩
def Kr(us:List Clear)(qs:List ah)(gr:Int)(l:List (bW × AV))(a:UInt8)(c:UInt32):AV:=match oD us qs gr l with
 | none => .tup [.agg [a8 0,ae 0,aI 0,aI 0,aI 0],aI 8]
 | some b=>if a<=15 then .tup [.agg (DW b a c).enc,aI 0] else .tup [.agg [a8 0,ae 0,aI 0,aI 0,aI 0],aI 8]
section
variable{t o:AV}{us:List Clear}{qs:List ah}{gr:Int}(n:Sl 3 (bR us) t)(k:Sl 5 (bL qs) o)(j:us.length<1000000)(i:qs.length<1000000){l:List (bW × AV)}{v:AV}(m:Sl 24 (bu l) v)(d : ∀p∈l,tA p)
include n k j i m d
theorem T2(D:l.length<=2048)(dep:Nat){H:aa}(K:Fr H){rb rs ru:Ref}{J z:AV}{b:eH}(w:jk H rb rs ru J z us qs gr b)(u:Own 24 (bu (l.map LF)) H z){q1 q2:Ref}(h:UInt8)(f:UInt32)(a:UInt8)(q:Int)
 (B:H.get q1=some ⟨3,[.agg [a8 h,ae f,a8 a]],false,false⟩) (L:H.get q2=some ⟨1,[aI q],false,false⟩) :
 ∃H',bD env dep (.fn 95) [.ptr rb 0 0,.ptr q1 0 0,.ptr q2 0 0] H=some (o7 ⟨h,f,a⟩ q (l.map LF),H')/\bE H H':=by
 refine eX (fn:=Tryz.f95) (c:=FO) (by kernel_rfl) (by kernel_rfl) (by kernel_rfl) (by kernel_rfl) (by kernel_rfl) ?_
 refine Fb _ _ _ _ _ _ λg=>?_
 have e:=TZ (recs:=l.map LF) (by simpa using D) (λp hp=>by
  obtain⟨A,I,rfl⟩:=vd.1 hp
  have:=d A I
  exact⟨RF this.1,this.2⟩) (dep:=dep) h f a q (Q:=λy H'=>y=o7 ⟨h,f,a⟩ q (l.map LF)/\bE H H') (l.map LF) 0 H rfl (by omega) K u B L (λH' E=>⟨rfl,E⟩)
 obtain⟨F,G,R,N,P,O,C,_⟩:=w.box
 have M:=w.one
 have x:=Own.len u
 rw[eY,uD]at x
 rw[uD]at e
 clear m d w u
 generalize o7 ⟨h,f,a⟩ q (l.map LF)=cc at *
 simp[ai, *,zN]
 exact e
theorem SA(dep:Nat){H:aa}(L:Fr H){rb rs ru:Ref}{A N:AV}{b:eH}(w:jk H rb rs ru A N us qs gr b)(e:q0 b){q1:Ref}(y:UInt8)(z:UInt32)(E:H.get q1=some ⟨2,[.agg [a8 y,ae z]],false,false⟩) :
 ∃H',bD env dep (.fn 98) [.ptr rb 0 0,.ptr q1 0 0] H=some (.tup [.agg (DW b y z).enc,aI 0],H')/\bE H H':=by
 refine eX (fn:=Tryz.f98) (c:=FM) (by kernel_rfl) (by kernel_rfl) (by kernel_rfl) (by kernel_rfl) (by kernel_rfl) ?_
 refine E9 _ _ _ _ _ λg=>?_
 obtain⟨J,K,Z,U,Y,V,B,D,F,f,a⟩:=w.box
 have C:=w.use
 have R:=f.s.cells
 have O:=a.s.cells
 have T:A.cells=[A]/\A.one=true:=by obtain⟨_,G⟩:=nP w.da;exact G.cells
 have P:=w.one
 have l1:(H.get rb).isSome=true:=by rw[B];rfl
 have l2:(H.get q1).isSome=true:=by rw[E];rfl
 have W:(H.get ru).isSome=true:=by rw[C];rfl
 have I:=λ(H':aa)(h:H'.get ru=some (bg (cB zr b.used)))=>Ff (g:=H'.get) e.used h ⟨y,z⟩
 have x : ∀b1 b2:bw,bE H ((⟨dep+1,5,H.gen (dep+1) 5,0⟩,some b2) :: (⟨dep+1,3,H.gen (dep+1) 3,0⟩,some b1) :: H):=λb1 b2=>⟨by simp(maxDischargeDepth:=12) [ek, *],λq c k=>by
  have M:(H.get q).isSome=true:=by rw[k];rfl
  simp[dH L M,k]⟩
 unfold DW
 generalize pT (aV ⟨y,z⟩ b.used)=u at *
 obtain⟨Q,S,X⟩:=u
 clear m d w f a e
 simp[ai, *,zL,wX.av,ah.enc]
 try exact x _ _
theorem abq(f:UInt8)(c:UInt32)(a:UInt8)(u:Int):ak env 29 [.agg [t,o,aI gr],v,.agg [a8 f,ae c,a8 a],aI u]=some (wC us qs gr l ⟨f,c,a⟩ u):=by
 refine an rfl (by kernel_rfl) (HY _ _ _ _ _ _ λg=>?_)
 have x:Fr [(⟨0,7,0,0⟩,some ⟨1,[aI u],false,false⟩),(⟨0,6,0,0⟩,some ⟨3,[.agg [a8 f,ae c,a8 a]],false,false⟩),(⟨0,4,0,0⟩,some ⟨3,[.agg [t,o,aI gr]],false,false⟩)]:=by simp(maxDischargeDepth:=12) [ek, *]
 have P:=yi f c a
 obtain⟨y,N,O,q⟩:=Gs (gr:=gr) n k j i m d 0 x (bad (dZ ⟨f,c,a⟩)) (fd:=95) (by kernel_rfl) (caps:=[.ptr ⟨0,6,0,0⟩ 0 0,.ptr ⟨0,7,0,0⟩ 0 0])
  (R:=λb y H=>y=o7 ⟨f,c,a⟩ u (l.map LF)) (λT b N rb rs ru U W w C M G J K=>by
   have A:l.length<=2048:=by
    unfold oD at w
    split at w
    ·rename_i h;exact h.2
    ·cases w
   obtain⟨L,E,V⟩:=T2 (gr:=gr) n k j i m d A 1 C.fr M G (q1:=⟨0,6,0,0⟩) (q2:=⟨0,7,0,0⟩) f c a u (C.old ⟨0,6,0,0⟩ _ (by simp)) (C.old ⟨0,7,0,0⟩ _ (by simp))
   obtain⟨S,Q,I⟩:=Di ⟨f,c,a⟩ u (l.map LF)
   rw[I]at E ⊢
   exact⟨_,_,L,E,rfl⟩)
 have F:y=wC us qs gr l ⟨f,c,a⟩ u:=by
  unfold pf at q
  unfold wC
  cases w:oD us qs gr l with
  | none=>rw[w]at q;exact q
  | some b=>
   rw[w]at q
   cases D:dZ ⟨f,c,a⟩ with
   | true=>simp only[D,bad,if_true]at q ⊢;exact q
   | false=>simp[D,bad]at q ⊢;exact q
 have B : ∃z e,wC us qs gr l ⟨f,c,a⟩ u = .tup [aI z,aI e]:=by
  unfold wC
  split
  ·exact⟨_,_,rfl⟩
  ·split
   ·exact Di _ _ _
   ·exact⟨_,_,rfl⟩
 obtain⟨z,e,B⟩:=B
 rw[B]at F ⊢
 subst F
 clear q B m d x
 simp[ai, *,B0,n.r,k.r]
 refine xf (by kernel_rfl) O ?_
 simp
theorem abm(a:UInt8)(h:UInt32):ak env 31 [.agg [t,o,aI gr],v,.agg [a8 a,ae h]]=some (Kr us qs gr l a h):=by
 refine an rfl (by kernel_rfl) (HX _ _ _ _ _ λg=>?_)
 have w:Fr [(⟨0,6,0,0⟩,some ⟨5,[.agg [a8 0,ae 0,aI 0,aI 0,aI 0]],false,false⟩),(⟨0,5,0,0⟩,some ⟨2,[.agg [a8 a,ae h]],false,false⟩),(⟨0,3,0,0⟩,some ⟨3,[.agg [t,o,aI gr]],false,false⟩)]:=by simp(maxDischargeDepth:=12) [ek, *]
 have I:=VA a h
 obtain⟨y,G,H,c,u⟩:=Pe (gr:=gr) n k j i m d 0 w (bad (decide (a<=15))) (fd:=98) (by kernel_rfl) (caps:=[.ptr ⟨0,5,0,0⟩ 0 0])
  (f:=λb=>DW b a h) (λJ b G rb rs ru K L z u E B=>SA (gr:=gr) n k j i m d 1 u.fr E B (q1:=⟨0,5,0,0⟩) a h (u.old ⟨0,5,0,0⟩ _ (by simp)))
 have D:y=Kr us qs gr l a h:=by
  unfold pf at c
  unfold Kr
  cases z:oD us qs gr l with
  | none=>rw[z]at c;exact c
  | some b=>
   rw[z]at c
   dsimp only at c ⊢
   by_cases A:a<=15
   ·simp only[A,bad,decide_true,if_true]at c ⊢;exact c
   ·simp[A,bad]at c
    rw[if_neg A]
    exact c
 have x : ∃q e,Kr us qs gr l a h = .tup [.agg (ah.enc q),aI e]:=by
  unfold Kr
  split
  ·exact⟨⟨0,0,0,0,0⟩,8,rfl⟩
  ·split
   ·exact⟨_,_,rfl⟩
   ·exact⟨⟨0,0,0,0,0⟩,8,rfl⟩
 obtain⟨q,e,x⟩:=x
 rw[x]at D ⊢
 subst D
 have C:=u.old ⟨0,6,0,0⟩ _ (by simp;rfl)
 have F:=u.fr
 obtain⟨f1,f2,f3,f4,f5⟩:=q
 clear c x m d w u
 simp[ai, *,BZ,n.r,k.r]
 refine xf (by kernel_rfl) H ?_
 simp[ah.enc,C]
end
end
section
def Bj(b:eH)(v:iI):wX:=pT (aV v b.used)
def qy(h:mz)(l:List (bW × AV)):Int:=l.foldl (λs p=>if p.1.kind=2/\p.1.op.h=h then p.1.op.serial else s) 0
theorem KS(h:mz)(l:List (bW × AV))(p:bW × AV):qy h (l++[p])=if p.1.kind=2/\p.1.op.h=h then p.1.op.serial else qy h l:=by
 simp[qy]
structure ZH (l:List (bW × AV)) (b:eH):Prop where
 ser : ∀h:mz,(gN (aV h b.ses)).s=qy h l/\((gN (aV h b.ses)).o=false->qy h l=0)
 up : ∀h:mz,0<=qy h l/\qy h l<16777216 /\∀p∈l,p.1.kind=2->p.1.op.h=h->p.1.op.serial<=qy h l
section
variable{us0:List Clear}{qs:List ah}{gr0:Int}{l:List (bW × AV)}{b:eH}{p:bW × AV}(h:ZH l b)(a:ew p.1=true)
include h a
theorem ZH.two(t:p.1.kind=2)(y:CO us0 qs gr0 b p.1=true):ZH (l++[p]) (wB b p.1.op p.1.code (tE p.2))/\p.1.op.serial=qy p.1.op.h l+1:=by
 simp only[CO,aY,decide_eq_true_eq]at y
 obtain⟨c,_,j,A,u⟩:=y
 have g:lT p.1.op=true:=by
  unfold ew at a
  rw[if_neg (by rw[t];decide),if_pos t]at a
  simp only[aY]at a
  exact a.2.1
 have z:1<=p.1.op.serial/\p.1.op.serial<16777216:=by
  simp only[lT,aY,decide_eq_true_eq]at g
  exact⟨g.2.1,g.2.2.1⟩
 have v:=(h.ser p.1.op.h).1
 have n:=h.up p.1.op.h
 have x:p.1.op.serial=qy p.1.op.h l+1:=by
  rw[j]
  show IntKind.i64.wrap ((gN (aV p.1.op.h b.ses)).s+1)=_
  rw[v]
  exact IntWalk.i64_in _ (by omega)
 refine⟨?_,x⟩
 have i : ∀d:mz,qy d (l++[p])=if d=p.1.op.h then p.1.op.serial else qy d l:=λd=>by
  rw[KS]
  by_cases e:d=p.1.op.h
  ·subst e;rw[if_pos ⟨t,rfl⟩,if_pos rfl]
  ·rw[if_neg (λm=>e m.2.symm),if_neg e]
 refine⟨λd=>?_,λd=>?_⟩
 ·rw[i]
  show(gN (aV d (gw p.1.op.h (wO.av { ld b p.1.op with s:=IntKind.i64.wrap ((ld b p.1.op).s+1)}) b.ses))).s=_/\((gN (aV d (gw p.1.op.h (wO.av { ld b p.1.op with s:=IntKind.i64.wrap ((ld b p.1.op).s+1)}) b.ses))).o=false->_)
  by_cases e:d=p.1.op.h
  ·subst e
   rw[lY,Cd,if_pos rfl]
   refine⟨j.symm,λm=>?_⟩
   simp only at m
   rw[m]at c
   cases c
  ·rw[kK e,if_neg e]
   exact h.ser d
 ·rw[i]
  by_cases e:d=p.1.op.h
  ·subst e
   rw[if_pos rfl]
   refine⟨by omega,by omega,λq f w k=>?_⟩
   rcases oH.1 f with f | f
   ·have:=n.2.2 q f w k;omega
   ·rw[vS]at f;subst f;exact Lc _
  ·rw[if_neg e]
   refine⟨(h.up d).1,(h.up d).2.1,λq f w k=>?_⟩
   rcases oH.1 f with f | f
   ·exact(h.up d).2.2 q f w k
   ·rw[vS]at f;subst f;exact absurd k.symm e
theorem ZH.step(j:uS us0 qs gr0 b p.1=true):ZH (l++[p]) (Mv b p):=by
 unfold uS at j
 unfold Mv
 have f:p.1.kind≠2->(∀d,qy d (l++[p])=qy d l) /\∀d:mz,0<=qy d l/\qy d l<16777216 /\∀q∈l++[p],q.1.kind=2->q.1.op.h=d->q.1.op.serial<=qy d l:=by
  intro k
  refine⟨λd=>by rw[KS,if_neg (λv=>k v.1)],λd=>⟨(h.up d).1,(h.up d).2.1,λq m t u=>?_⟩⟩
  rcases oH.1 m with m | m
  ·exact(h.up d).2.2 q m t u
  ·rw[vS]at m;subst m;exact absurd t k
 by_cases n:p.1.kind=1
 ·rw[if_pos n]at j ⊢
  obtain⟨g,i⟩:=f (by rw[n];decide)
  simp only[Gl,aY,dN]at j
  refine⟨λd=>?_,λd=>by rw[g];exact i d⟩
  rw[g]
  show(gN (aV d (gw p.1.op.h (wO.av ⟨true,p.1.user,0⟩) b.ses))).s=qy d l/\((gN (aV d (gw p.1.op.h (wO.av ⟨true,p.1.user,0⟩) b.ses))).o=false->qy d l=0)
  by_cases e:d=p.1.op.h
  ·subst e
   rw[lY,Cd]
   exact⟨((h.ser p.1.op.h).2 j.1).symm,λh=>by cases h⟩
  ·rw[kK e]
   exact h.ser d
 ·rw[if_neg n]at j ⊢
  by_cases k:p.1.kind=2
  ·rw[if_pos k]at j ⊢
   exact(h.two a k j).1
  ·rw[if_neg k]
   obtain⟨g,i⟩:=f k
   exact⟨λd=>by rw[g];exact h.ser d,λd=>by rw[g];exact i d⟩
end
theorem U4{us0:List Clear}{qs:List ah}{gr0:Int} : ∀(s l:List (bW × AV)) (b b':eH),ZH l b->QN us0 qs gr0 b s=some b'->ZH (l++s) b'
 | [],l,b,b',h,he=>by simp[QN]at he;subst he;simpa using h
 | p :: s,l,b,b',h,he=>by
  unfold QN at he
  split at he
  ·rename_i d
   have:=U4 s (l++[p]) (Mv b p) b' (h.step d.1 d.2) he
   simpa using this
  ·cases he
theorem aj1(us0:List Clear)(gr0:Int):ZH [] (A1 us0 gr0):=⟨λh=>⟨rfl,λ_=>rfl⟩,λh=>⟨by simp[qy],by simp[qy],λp hp=>by cases hp⟩⟩
section
variable{us0:List Clear}{qs:List ah}{gr0:Int}{l:List (bW × AV)}{b:eH}(c:oD us0 qs gr0 l=some b)
include c
theorem YJ:tY us0 qs gr0=true/\l.length<=2048/\QN us0 qs gr0 (A1 us0 gr0) l=some b:=by
 unfold oD at c
 split at c
 ·rename_i h;exact⟨h.1,h.2,c⟩
 ·cases c
theorem YI:ZH l b:=by
 obtain⟨e,_,d⟩:=YJ c
 have:=U4 l [] _ b (aj1 us0 gr0) d
 simpa using this
end
end
section
attribute [local simp] aG ay aw aF aE bQ gX aM aA aD bI bH bn aN aj bf fe
section
variable{v t:AV}{us:List Clear}{qs:List ah}{gr:Int}(n:Sl 3 (bR us) v)(i:Sl 5 (bL qs) t)(k:us.length<1000000)(j:qs.length<1000000){l:List (bW × AV)}{w:AV}(m:Sl 24 (bu l) w)(a : ∀p∈l,tA p)
include n i k j m a
theorem T6(dep:Nat){H:aa}(W:Fr H)(B:Int){fd:FuncId}(X:(env.mode fd == 2)=true){caps:List AV}{f:eH->wO}
 (Q:B=0 ->∀b A rb rs ru K M,oD us qs gr l=some b->bE H A->jk A rb rs ru K M us qs gr b->q0 b ->∃G,bD env (dep+1) (.fn fd) ([]++[.ptr rb 0 0]++caps) A=some (.tup [(f b).av,aI 0],G)/\bE A G) :
 ∃y H',bD env dep (.fn 90) [.agg [v,t,aI gr],w,aI B,.fn (.func fd) [] caps] H=some (y,H')/\pf (oD us qs gr l) B (.agg [aB false,aI 0,aI 0]) (λb y _=>y = .tup [(f b).av,aI 0]) y H'/\bE H H':=by
 have O:bF env Tryz.f90 (dep+1) [.code oF] (tK 0 [.agg [v,t,aI gr],w,aI B,.fn (.func fd) [] caps]) H λy H'=>pf (oD us qs gr l) B (.agg [aB false,aI 0,aI 0]) (λb y _=>y = .tup [(f b).av,aI 0]) y H'/\bE H H':=by
  have x : ∀b1 b2:bw,bE H ((⟨dep+1,8,H.gen (dep+1) 8,0⟩,some b2) :: (⟨dep+1,4,H.gen (dep+1) 4,0⟩,some b1) :: H):=λb1 b2=>⟨by simp(maxDischargeDepth:=12) [ek, *],λq c i=>by
   have T:(H.get q).isSome=true:=by rw[i];rfl
   simp[dH W T,i]⟩
  obtain⟨y,A,hO,F⟩:=Vy (gr:=gr) n i k j m a (dep+1) (x ⟨3,[.agg [v,t,aI gr]],false,false⟩ ⟨3,[.agg [aB false,aI 0,aI 0]],false,false⟩).fr
  have h : ∀(I:aa)(c:bw),bE H I->I.get ⟨dep+1,8,H.gen (dep+1) 8,0⟩=some c ->∀V,bE H (I.put ⟨dep+1,8,H.gen (dep+1) 8,0⟩ (some V)):=by
   intro I c E Y V
   refine⟨E.fr.put _ (by rw[Y];rfl),λq d i=>?_⟩
   have T:(H.get q).isSome=true:=by rw[i];rfl
   rw[aa.get_put,if_neg (λe=>qM W T _ _ _ e.symm)]
   exact E.old q d i
  refine oC _ _ _ _ _ _ _ λg=>?_
  unfold pf
  simp[ai, *,jj,m.r,n.r,i.r]
  refine xf (by kernel_rfl) hO ?_
  cases J:oD us qs gr l with
  | none=>
   rw[J]at F
   obtain⟨rfl,z⟩:=F
   have u:=z.old ⟨dep+1,8,H.gen (dep+1) 8,0⟩ _ (by simp;rfl)
   have S:=z.fr
   have o:=h A _ ((x _ _).trans z) u
   clear m a h
   simp[u,o]
  | some b=>
   rw[J]at F
   obtain⟨rb,rs,ru,rk,K,M,rfl,N,P⟩:=F
   have z:=N.g
   have u:=z.old ⟨dep+1,8,H.gen (dep+1) 8,0⟩ _ (by simp;rfl)
   have S:=z.fr
   by_cases U:B=0
   ·subst U
    obtain⟨G,R,D⟩:=Q rfl b A rb rs ru K M J ((x _ _).trans N.g) N.bk P
    have C:=D.old _ _ u
    have Z:=D.fr
    have o:=h G _ (((x _ _).trans z).trans D) C
    clear h
    simp
    refine xf X R ?_
    cases L:f b with
    | mk f1 f2 f3=>
     simp[C,L,wO.av,o]
   ·have o:=h A _ ((x _ _).trans z) u
    clear h
    simp[U,u,o]
 obtain⟨y,H',R,D⟩:=mJ (f:=90) (by kernel_rfl) (by kernel_rfl) (by kernel_rfl) (by kernel_rfl) (by kernel_rfl) O
 exact⟨y,H',R,D⟩
def Xq(c:List Clear)(qs:List ah)(b:Int)(y:AV)(H:aa):Prop :=∃e f d g,y = .tup [.agg [e,d,aI b],aI 0]/\jV 3 (bR c) H e f/\jV 5 (bL qs) H d g
theorem T7(dep:Nat){H:aa}(Y:Fr H){fd:FuncId}(Z:(env.mode fd == 2)=true){caps:List AV}
 (U : ∀b E rb rs ru L O,oD us qs gr l=some b->bE H E->jk E rb rs ru L O us qs gr b->q0 b ->∃y D,bD env (dep+1) (.fn fd) ([]++[.ptr rb 0 0]++caps) E=some (y,D)/\Xq b.us qs b.gr y D/\bE E D) :
 ∃y H',bD env dep (.fn 87) [.agg [v,t,aI gr],w,aI 0,.fn (.func fd) [] caps] H=some (y,H')/\pf (oD us qs gr l) 0 (.agg [ba,ba,aI 0]) (λb y H=>Xq b.us qs b.gr y H) y H'/\bE H H':=by
 have Q:bF env Tryz.f87 (dep+1) [.code o9] (tK 0 [.agg [v,t,aI gr],w,aI 0,.fn (.func fd) [] caps]) H λy H'=>pf (oD us qs gr l) 0 (.agg [ba,ba,aI 0]) (λb y H=>Xq b.us qs b.gr y H) y H'/\bE H H':=by
  have x : ∀b1 b2:bw,bE H ((⟨dep+1,8,H.gen (dep+1) 8,0⟩,some b2) :: (⟨dep+1,4,H.gen (dep+1) 4,0⟩,some b1) :: H):=λb1 b2=>⟨by simp(maxDischargeDepth:=12) [ek, *],λq c i=>by
   have X:(H.get q).isSome=true:=by rw[i];rfl
   simp[dH Y X,i]⟩
  obtain⟨y,E,hO,I⟩:=Vy (gr:=gr) n i k j m a (dep+1) (x ⟨3,[.agg [v,t,aI gr]],false,false⟩ ⟨3,[.agg [ba,ba,aI 0]],false,false⟩).fr
  have h : ∀(J:aa)(c:bw),bE H J->J.get ⟨dep+1,8,H.gen (dep+1) 8,0⟩=some c ->∀z,bE H (J.put ⟨dep+1,8,H.gen (dep+1) 8,0⟩ (some z)):=by
   intro J c G hc z
   refine⟨G.fr.put _ (by rw[hc];rfl),λq d i=>?_⟩
   have X:(H.get q).isSome=true:=by rw[i];rfl
   rw[aa.get_put,if_neg (λe=>qM Y X _ _ _ e.symm)]
   exact G.old q d i
  refine oJ _ _ _ _ _ _ _ λg=>?_
  unfold pf
  simp[ai, *,jH,m.r,n.r,i.r]
  refine xf (by kernel_rfl) hO ?_
  cases K:oD us qs gr l with
  | none=>
   rw[K]at I
   obtain⟨rfl,C⟩:=I
   have u:=C.old ⟨dep+1,8,H.gen (dep+1) 8,0⟩ _ (by simp;rfl)
   have W:=C.fr
   have o:=h E _ ((x _ _).trans C) u
   clear m a h
   simp[u,o]
  | some b=>
   rw[K]at I
   obtain⟨rb,rs,ru,rk,L,O,rfl,P,T⟩:=I
   have C:=P.g
   have u:=C.old ⟨dep+1,8,H.gen (dep+1) 8,0⟩ _ (by simp;rfl)
   have W:=C.fr
   obtain⟨y,D,V,⟨yu,wu,yq,wq,rfl,R,M⟩,F⟩:=U b E rb rs ru L O K ((x _ _).trans P.g) P.bk T
   have A:=F.old _ _ u
   have hF3:=F.fr
   have o:=h D _ (((x _ _).trans C).trans F) A
   have B : ∀z,∀q c,D.get q=some c->c.kq=true->(D.put ⟨dep+1,8,H.gen (dep+1) 8,0⟩ (some z)).get q=some c:=by
    intro z q c i hf
    rw[aa.get_put,if_neg (λe=>by subst e;rw[A]at i;injection i with i;subst i;cases hf)]
    exact i
   have N:=λz=>jV.bQ R (B z)
   have S:=λz=>jV.bQ M (B z)
   have c3:=R.s.cells
   have c4:=M.s.cells
   clear h B R M m a
   simp
   refine xf Z V ?_
   simp[A,o,c3,c4]
   exact⟨yu,wu,yq,wq,rfl,N _,S _⟩
 obtain⟨y,H',V,F⟩:=mJ (f:=87) (by kernel_rfl) (by kernel_rfl) (by kernel_rfl) (by kernel_rfl) (by kernel_rfl) Q
 exact⟨y,H',V,F⟩
theorem V1(dep:Nat){H:aa}(I:Fr H){rb rs ru:Ref}{f K:AV}{b:eH}(h:jk H rb rs ru f K us qs gr b) :
 ∃y H',bD env dep (.fn 88) [.ptr rb 0 0] H=some (y,H')/\Xq b.us qs b.gr y H'/\bE H H':=by
 refine mJ (fn:=Tryz.f88) (c:=Dj) (Q:=λy H'=>Xq b.us qs b.gr y H'/\bE H H') (by kernel_rfl) (by kernel_rfl) (by kernel_rfl) (by kernel_rfl) (by kernel_rfl) ?_
 refine C3 _ _ _ _ λg=>?_
 obtain⟨D,G,F,A,E,B,u,o,q,e,d⟩:=h.box
 have x : ∀b1:bw,bE H ((⟨dep+1,2,H.gen (dep+1) 2,0⟩,some b1) :: H):=λb1=>bE.cons I _ _ _
 have N:=e.s.cells
 have L:=d.s.cells
 have O:f.cells=[f]/\f.one=true:=by obtain⟨_,C⟩:=nP h.da;exact C.cells
 have M:=h.one
 have P:(H.get rb).isSome=true:=by rw[u];rfl
 have J:=λb1=>jV.grow e (x b1)
 have z:=λb1=>jV.grow d (x b1)
 clear e d h m a
 simp[ai, *,wH,o.r,q.r]
 exact⟨F,E,A,B,rfl,J _,z _⟩
theorem U3(dep:Nat){H:aa}(L:Fr H){rb rs ru:Ref}{A M:AV}{b:eH}(o:jk H rb rs ru A M us qs gr b)(e:q0 b){q1:Ref}(y:UInt8)(z:UInt32)(x:UInt8)(E:H.get q1=some ⟨3,[.agg [a8 y,ae z,a8 x]],false,false⟩) :
 ∃H',bD env dep (.fn 92) [.ptr rb 0 0,.ptr q1 0 0] H=some (.tup [(gN (aV ⟨y,z,x⟩ b.ses)).av,aI 0],H')/\bE H H':=by
 refine eX (fn:=Tryz.f92) (c:=Cx) (by kernel_rfl) (by kernel_rfl) (by kernel_rfl) (by kernel_rfl) (by kernel_rfl) ?_
 refine Cp _ _ _ _ _ λg=>?_
 obtain⟨J,K,Y,T,X,U,B,D,F,f,d⟩:=o.box
 have C:=o.ses
 have Q:=f.s.cells
 have N:=d.s.cells
 have S:A.cells=[A]/\A.one=true:=by obtain⟨_,G⟩:=nP o.da;exact G.cells
 have O:=o.one
 have Z:(H.get rb).isSome=true:=by rw[B];rfl
 have l2:(H.get q1).isSome=true:=by rw[E];rfl
 have V:(H.get rs).isSome=true:=by rw[C];rfl
 have I:=λ(H':aa)(h:H'.get rs=some (bg (cB Bn b.ses)))=>Iw (g:=H'.get) e.ses h ⟨y,z,x⟩
 have q : ∀b1:bw,bE H ((⟨dep+1,3,H.gen (dep+1) 3,0⟩,some b1) :: H):=λb1=>bE.cons L _ _ _
 generalize gN (aV ⟨y,z,x⟩ b.ses)=u at *
 obtain⟨P,R,W⟩:=u
 clear m a o f d e
 simp[ai, *,vn,wO.av]
 try exact q _
def SI(us:List Clear)(qs:List ah)(gr:Int)(l:List (bW × AV))(h:mz):AV:=match oD us qs gr l with
 | none => .tup [.agg [aB false,aI 0,aI 0],aI 8]
 | some b=>if dZ h=true then .tup [(gN (aV h b.ses)).av,aI 0] else .tup [.agg [aB false,aI 0,aI 0],aI 8]
theorem SU(d:UInt8)(h:UInt32)(c:UInt8):ak env 27 [.agg [v,t,aI gr],w,.agg [a8 d,ae h,a8 c]]=some (SI us qs gr l ⟨d,h,c⟩):=by
 refine an rfl (by kernel_rfl) (DL _ _ _ _ _ λg=>?_)
 have u:Fr [(⟨0,6,0,0⟩,some ⟨3,[.agg [aB false,aI 0,aI 0]],false,false⟩),(⟨0,5,0,0⟩,some ⟨3,[.agg [a8 d,ae h,a8 c]],false,false⟩),(⟨0,3,0,0⟩,some ⟨3,[.agg [v,t,aI gr]],false,false⟩)]:=by simp(maxDischargeDepth:=12) [ek, *]
 have I:=yi d h c
 obtain⟨y,G,H,o,q⟩:=T6 (gr:=gr) n i k j m a 0 u (bad (dZ ⟨d,h,c⟩)) (fd:=92) (by kernel_rfl) (caps:=[.ptr ⟨0,5,0,0⟩ 0 0])
  (f:=λb=>gN (aV (⟨d,h,c⟩:mz) b.ses)) (λJ b G rb rs ru K L z q E A=>U3 (gr:=gr) n i k j m a 1 q.fr E A (q1:=⟨0,5,0,0⟩) d h c (q.old ⟨0,5,0,0⟩ _ (by simp)))
 have D:y=SI us qs gr l ⟨d,h,c⟩:=by
  unfold pf at o
  unfold SI
  cases z:oD us qs gr l with
  | none=>rw[z]at o;exact o
  | some b=>
   rw[z]at o
   cases C:dZ ⟨d,h,c⟩ with
   | true=>simp only[C,bad,if_true]at o ⊢;exact o
   | false=>simp[C,bad]at o ⊢;exact o
 have x : ∃(s:wO) (e:Int),SI us qs gr l ⟨d,h,c⟩ = .tup [s.av,aI e]:=by
  unfold SI
  split
  ·exact⟨⟨false,0,0⟩,8,rfl⟩
  ·split
   ·exact⟨_,_,rfl⟩
   ·exact⟨⟨false,0,0⟩,8,rfl⟩
 obtain⟨s,e,x⟩:=x
 rw[x]at D ⊢
 subst D
 have B:=q.old ⟨0,6,0,0⟩ _ (by simp;rfl)
 have F:=q.fr
 obtain⟨f1,f2,f3⟩:=s
 clear o x m a u q
 simp[ai, *,xL,n.r,i.r]
 refine xf (by kernel_rfl) H ?_
 simp[wO.av,B]
def abQ(us:List Clear)(qs:List ah)(gr:Int)(l:List (bW × AV))(y:AV):Prop:=match oD us qs gr l with
 | none=>y = .tup [.agg [ba,ba,aI 0],aI 8]
 | some b =>∃c d,Sl 3 (bR b.us) c/\Sl 5 (bL qs) d/\y = .tup [.agg [c,d,aI b.gr],aI 0]
theorem Vp : ∃y,ak env 25 [.agg [v,t,aI gr],w]=some y/\abQ us qs gr l y:=by
 refine zq (fn:=Tryz.f25) (c:=FN) (by kernel_rfl) (by kernel_rfl) (by kernel_rfl) (by kernel_rfl) (by kernel_rfl) ?_
 refine Fa _ _ _ _ λg=>?_
 have f:Fr [(⟨0,4,0,0⟩,some ⟨3,[.agg [ba,ba,aI 0]],false,false⟩),(⟨0,2,0,0⟩,some ⟨3,[.agg [v,t,aI gr]],false,false⟩)]:=by simp(maxDischargeDepth:=12) [ek, *]
 obtain⟨y,C,M,h,u⟩:=T7 (gr:=gr) n i k j m a 0 f (fd:=88) (by kernel_rfl) (caps:=[])
  (λb C rb rs ru T O B u K J=>V1 (gr:=gr) n i k j m a 1 u.fr K)
 simp[ai, *,zM,n.r,i.r]
 refine xf (by kernel_rfl) M ?_
 have o:=u.old ⟨0,4,0,0⟩ _ (by simp;rfl)
 have L:=u.fr
 unfold pf at h
 unfold abQ
 cases B:oD us qs gr l with
 | none=>rw[B]at h;subst h;clear u f;simp[o]
 | some b=>
  rw[B]at h
  dsimp only at h ⊢
  rw[if_pos rfl]at h
  obtain⟨S,R,P,Q,rfl,z,A⟩:=h
  have G:=z.s.cells
  have F:=A.s.cells
  have d : ∀x,∀q c,C.get q=some c->c.kq=true->(C.put ⟨0,4,0,0⟩ (some x)).get q=some c:=by
   intro x q c i H
   rw[aa.get_put,if_neg (λe=>by subst e;rw[o]at i;injection i with i;subst i;cases H)]
   exact i
  have I:=λx=>(jV.bQ z (d x)).s.view
  have E:=λx=>(jV.bQ A (d x)).s.view
  have D:=z.s.sl
  have N:=A.s.sl
  clear u f d z A m a
  simp[o,G,F,I,E]
  exact⟨D,N⟩
def Lw(us:List Clear)(qs:List ah)(gr:Int)(l:List (bW × AV))(o:aC):AV:=match oD us qs gr l with
 | none => .tup [aI 0,aI 8]
 | some b=>if lT o=true then .tup [aI (iS us qs gr b o),aI 0] else .tup [aI 0,aI 8]
theorem UD(dep:Nat){H:aa}(Q:Fr H){rb rs ru:Ref}{P R:AV}{b:eH}(M:jk H rb rs ru P R us qs gr b)(K:q0 b){q1:Ref}(C:UInt8)(I:UInt8)(B:UInt32)(F:UInt8)(E:Int)(z:UInt8)(G:UInt32)(A:UInt8)(D:Int)(f:Int)(q:UInt8)(h:UInt32)(u:UInt8)(d:Int)(y:UInt8)(o:UInt32){x:AV}{al:List Int}(J:Sl 1 (rows al) x)(L:al.length<1000000)
 (S:H.get q1=some ⟨17,[.agg [a8 C,a8 I,ae B,a8 F,aI E,a8 z,ae G,a8 A,aI D,aI f,a8 q,ae h,a8 u,aI d,a8 y,ae o,x]],false,false⟩) : ∃H',bD env dep (.fn 71) [.ptr rb 0 0,.ptr q1 0 0] H=some (.tup [aI (iS us qs gr b (⟨C,⟨I,B,F⟩,E,⟨⟨⟨z,G,A⟩,D⟩,f⟩,⟨⟨q,h,u⟩,d⟩,⟨y,o⟩,al⟩:aC)),aI 0],H')/\bE H H':=by
 refine eX (fn:=Tryz.f71) (c:=Cw) (by kernel_rfl) (by kernel_rfl) (by kernel_rfl) (by kernel_rfl) (by kernel_rfl) ?_
 refine Co _ _ _ _ _ λg=>?_
 have N:=HR (dep+1) Q M.at K k j C I B F E z G A D f q h u d y o J L
 have T:=J.r
 clear m a M K
 generalize iS us qs gr b (⟨C,⟨I,B,F⟩,E,⟨⟨⟨z,G,A⟩,D⟩,f⟩,⟨⟨q,h,u⟩,d⟩,⟨y,o⟩,al⟩:aC)=e at *
 simp[ai, *,vm]
 refine nk (by kernel_rfl) N λU O=>?_
 simp[O]
theorem SS(F:UInt8)(J:UInt8)(B:UInt32)(C:UInt8)(I:Int)(E:UInt8)(D:UInt32)(A:UInt8)(G:Int)(q:Int)(u:UInt8)(c:UInt32)(f:UInt8)(o:Int)(h:UInt8)(d:UInt32){x:AV}{al:List Int}(L:Sl 1 (rows al) x)(P:al.length<1000000) :
 ak env 17 [.agg [v,t,aI gr],w,.agg [a8 F,a8 J,ae B,a8 C,aI I,a8 E,ae D,a8 A,aI G,aI q,a8 u,ae c,a8 f,aI o,a8 h,ae d,x]]=some (Lw us qs gr l (⟨F,⟨J,B,C⟩,I,⟨⟨⟨E,D,A⟩,G⟩,q⟩,⟨⟨u,c,f⟩,o⟩,⟨h,d⟩,al⟩:aC)):=by
 refine an rfl (by kernel_rfl) (DK _ _ _ _ _ λg=>?_)
 have M:Fr [(⟨0,5,0,0⟩,some ⟨17,[.agg [a8 F,a8 J,ae B,a8 C,aI I,a8 E,ae D,a8 A,aI G,aI q,a8 u,ae c,a8 f,aI o,a8 h,ae d,x]],false,false⟩),(⟨0,3,0,0⟩,some ⟨3,[.agg [v,t,aI gr]],false,false⟩)]:=by simp(maxDischargeDepth:=12) [ek, *]
 have hC:=mF F J B C I E D A G q u c f o h d L (by omega)
 obtain⟨y,Y,Z,K⟩:=Gs (gr:=gr) n i k j m a 0 M (bad (lT (⟨F,⟨J,B,C⟩,I,⟨⟨⟨E,D,A⟩,G⟩,q⟩,⟨⟨u,c,f⟩,o⟩,⟨h,d⟩,al⟩:aC))) (fd:=71) (by kernel_rfl) (caps:=[.ptr ⟨0,5,0,0⟩ 0 0])
  (R:=λb y H=>y = .tup [aI (iS us qs gr b (⟨F,⟨J,B,C⟩,I,⟨⟨⟨E,D,A⟩,G⟩,q⟩,⟨⟨u,c,f⟩,o⟩,⟨h,d⟩,al⟩:aC)),aI 0]) (λhw b Y rb rs ru xh xr O T hb hr hrt Q=>by
   obtain⟨X,W,g2⟩:=UD (gr:=gr) n i k j m a 1 T.fr hb Q (q1:=⟨0,5,0,0⟩) F J B C I E D A G q u c f o h d L P (T.old ⟨0,5,0,0⟩ _ (by simp))
   exact⟨_,_,X,W,rfl⟩)
 have S:y=Lw us qs gr l (⟨F,⟨J,B,C⟩,I,⟨⟨⟨E,D,A⟩,G⟩,q⟩,⟨⟨u,c,f⟩,o⟩,⟨h,d⟩,al⟩:aC):=by
  unfold pf at K
  unfold Lw
  cases O:oD us qs gr l with
  | none=>rw[O]at K;exact K
  | some b=>
   rw[O]at K
   cases U:lT (⟨F,⟨J,B,C⟩,I,⟨⟨⟨E,D,A⟩,G⟩,q⟩,⟨⟨u,c,f⟩,o⟩,⟨h,d⟩,al⟩:aC) with
   | true=>simp only[U,bad,if_true]at K ⊢;exact K
   | false=>simp[U,bad]at K ⊢;exact K
 have N : ∃z e,Lw us qs gr l (⟨F,⟨J,B,C⟩,I,⟨⟨⟨E,D,A⟩,G⟩,q⟩,⟨⟨u,c,f⟩,o⟩,⟨h,d⟩,al⟩:aC) = .tup [aI z,aI e]:=by
  unfold Lw
  split
  ·exact⟨_,_,rfl⟩
  ·split
   ·exact⟨_,_,rfl⟩
   ·exact⟨_,_,rfl⟩
 obtain⟨z,e,N⟩:=N
 rw[N]at S ⊢
 subst S
 have V:=L.r
 clear K N m a M
 simp[ai, *,xK,n.r,i.r]
 refine xf (by kernel_rfl) Z ?_
 simp
end
end
section
structure Ud (v:iI) (b b':eH):Prop where
 us:b'.us=b.us
 gr:b'.gr=b.gr
 ses : ∀h:mz,qS ⟨h.lv,h.cats⟩ v=true->gN (aV h b'.ses)=gN (aV h b.ses)
 use : ∀w:iI,qS w v=true->Bj b' w=Bj b w
 da:opsOf b'.da=(opsOf b.da).filter (Fx v)
 is:(ot [] [] b.da).isSome=true
section
variable{v:iI}{b b':eH}(h:Ud v b b')(a:b.da.length<=100){us:List Clear}{qs:List ah}{gr:Int}
include h a
end
theorem YY{us:List Clear}{qs:List ah}{gr:Int}{b:eH}{r:bW}{y:AV}(g:(ot [] [] b.da).isSome=true)(f:r.kind=2)(c:uS us qs gr b r=true):(ot [] [] (wB b r.op r.code y).da).isSome=true:=by
 show(ot [] [] (if r.code=0 then b.da++[(r.op,y)] else b.da)).isSome=true
 split
 ·rename_i i
  unfold uS at c
  rw[if_neg (by rw[f];decide),if_pos f]at c
  simp only[CO,aY,decide_eq_true_eq]at c
  have d:=c.2.2.2.2
  rw[i]at d
  refine Mu (p:=(r.op,y)) ?_
  unfold iS at d
  split at d
  ·rename_i e;exact absurd d.symm e
  ·rename_i e
   exact Decidable.not_not.1 e
 ·exact g
theorem GV(b:eH)(h c:mz)(s:wO):gN (aV c (gw h s.av b.ses))=if c=h then s else gN (aV c b.ses):=by
 split
 ·rename_i e;subst e;rw[lY,Cd]
 ·rename_i e;rw[kK e]
theorem B8(v w:iI)(u:wX)(l:List (iI × AV)):pT (aV w (gw v u.av l))=if w=v then u else pT (aV w l):=by
 split
 ·rename_i e;subst e;rw[lY,GR]
 ·rename_i e;rw[kK e]
section
variable{v:iI}{b b':eH}(h:Ud v b b'){us:List Clear}{qs:List ah}{gr:Int}
include h
theorem Ud.low{p p':bW × AV}(e:p'.1=p.1)(c:RX v p=true)(m:uS us qs gr b p.1=true):Ud v (Mv b p) (Mv b' p'):=by
 unfold Mv
 rw[e]
 unfold RX at c
 by_cases f:p.1.kind=1
 ·rw[if_pos f,if_pos f]
  have c:qS ⟨p.1.op.h.lv,p.1.op.h.cats⟩ v=true:=by
   rw[f]at c;simpa using c
  have g:lJ b' p.1.op=lJ b p.1.op:=h.use _ c
  refine⟨h.us,h.gr,λk j=>?_,λw i=>?_,h.da,h.is⟩
  ·show gN (aV k (gw p.1.op.h (wO.av ⟨true,p.1.user,0⟩) b'.ses))=gN (aV k (gw p.1.op.h (wO.av ⟨true,p.1.user,0⟩) b.ses))
   rw[GV,GV,h.ses k j]
  ·show pT (aV w (gw ⟨p.1.op.h.lv,p.1.op.h.cats⟩ (wX.av { lJ b' p.1.op with opens:=IntKind.i64.wrap ((lJ b' p.1.op).opens+1)}) b'.used))=pT (aV w (gw ⟨p.1.op.h.lv,p.1.op.h.cats⟩ (wX.av { lJ b p.1.op with opens:=IntKind.i64.wrap ((lJ b p.1.op).opens+1)}) b.used))
   have:=h.use w i
   unfold Bj at this
   rw[B8,B8,this,g]
 ·rw[if_neg f,if_neg f]
  by_cases d:p.1.kind=2
  ·rw[if_pos d,if_pos d]
   have c:qS ⟨p.1.op.h.lv,p.1.op.h.cats⟩ v=true:=by
    rw[d]at c;simpa using c
   have g:lJ b' p.1.op=lJ b p.1.op:=h.use _ c
   have n:ld b' p.1.op=ld b p.1.op:=h.ses _ c
   have l:A0 b' p.1.op p.1.code=A0 b p.1.op p.1.code:=by unfold A0;rw[g]
   refine⟨h.us,h.gr,λk j=>?_,λw i=>?_,?_,YY h.is d m⟩
   ·show gN (aV k (gw p.1.op.h (wO.av { ld b' p.1.op with s:=IntKind.i64.wrap ((ld b' p.1.op).s+1)}) b'.ses))=gN (aV k (gw p.1.op.h (wO.av { ld b p.1.op with s:=IntKind.i64.wrap ((ld b p.1.op).s+1)}) b.ses))
    rw[GV,GV,h.ses k j,n]
   ·show pT (aV w (gw ⟨p.1.op.h.lv,p.1.op.h.cats⟩ (wX.av (A0 b' p.1.op p.1.code)) b'.used))=pT (aV w (gw ⟨p.1.op.h.lv,p.1.op.h.cats⟩ (wX.av (A0 b p.1.op p.1.code)) b.used))
    have:=h.use w i
    unfold Bj at this
    rw[B8,B8,this,l]
   ·show opsOf (if p.1.code=0 then b'.da++[(p.1.op,tE p'.2)] else b'.da)=(opsOf (if p.1.code=0 then b.da++[(p.1.op,tE p.2)] else b.da)).filter (Fx v)
    split
    ·rw[m9,m9,PD,h.da]
     have:Fx v p.1.op=true:=c
     simp[this]
    ·exact h.da
  ·rw[if_neg d,if_neg d]
   refine⟨?_,?_,h.ses,h.use,h.da,h.is⟩
   ·show b'.us.set _ _=b.us.set _ _
    rw[h.us]
   ·show IntKind.i64.wrap (b'.gr - 1)=IntKind.i64.wrap (b.gr - 1)
    rw[h.gr]
end
end
end Go.Proofs.YtmkmimgokagimaaGreat
