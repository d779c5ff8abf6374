/-
  The document's answers on ids, runes and operations. No statement of a seat is proved here.
-/
import Derived.Test.YtmkmimgokagimaaGreatMLeDoc7
import Derived.Test.YtmkmimgokagimaaGreatMLeTwin
set_option linter.unusedVariables false
set_option linter.unusedSimpArgs false
set_option linter.unusedSectionVars false
set_option linter.unnecessarySimpa false
set_option maxRecDepth 1000000
set_option linter.defProp false
namespace Go.Proofs.YtmkmimgokagimaaGreat
open Go.Ab
section
attribute [local simp] aJ az au aG aF aX lZ aO aE aH bT bS bg aP an bA gj
@[simp] def K4(a:UInt8)(b:UInt32)(n:UInt8):ax env 93 [.agg [a8 a,af b,a8 n]]=some (aB (mA ⟨a,b,n⟩)):=by
 refine ay rfl (by kernel_rfl) (uH _ _ _ λg=>?_);simp[ai, *,nS,mA];repeat' ((first | apply ji<;>intro h | apply fY<;>intro h | apply fZ<;>intro h | apply fW<;>intro h | apply fX<;>intro h)<;>(try simp only[iQb,iQc,dI,kT,aT,fp]at h)<;>(try simp[ai, *]))
@[simp] def ah5(a:UInt8)(b:UInt32)(n:UInt8)(k:Int):ax env 140 [.agg [a8 a,af b,a8 n,aI k]]=some (aB (E3 ⟨⟨a,b,n⟩,k⟩)):=by
 refine ay rfl (by kernel_rfl) (zr _ _ _ λg=>?_);simp[ai, *,sO,E3];repeat' ((first | apply ji<;>intro h | apply fY<;>intro h | apply fZ<;>intro h | apply fW<;>intro h | apply fX<;>intro h)<;>(try simp only[iQb,iQc,dI,kT,aT,fp]at h)<;>(try simp[ai, *]))
@[simp] def abb(a:UInt8)(b:UInt32)(n:UInt8)(k m:Int):ax env 138 [.agg [a8 a,af b,a8 n,aI k,aI m]]=some (aB (eN ⟨⟨⟨a,b,n⟩,k⟩,m⟩)):=by
 refine ay rfl (by kernel_rfl) (vF _ _ _ λg=>?_);cases c:E3 ⟨⟨a,b,n⟩,k⟩ with
 | false=>simp[ai, *,fk,eN]
 | true=>
  have d:=Kh c;simp only at d;by_cases i:1<=m
  ·by_cases j:m<=64
   ·have f:=iQa (1099511627777 - m) (by omega);have e:decide (k+m - 1<=1099511627776)=decide (k<=1099511627777 - m):=by
     by_cases h:k<=1099511627777 - m;·rw[iQj h,iQj (by omega)]
     rw[iQk h,iQk (by omega)]
    simp[ai, *,fk,eN]
   simp[ai, *,fk,eN]
  simp[ai, *,fk,eN]
@[simp] def afN(a:UInt8)(b:UInt32)(n:UInt8)(k:Int):ax env 139 [.agg [a8 a,af b,a8 n,aI k]]=some (aB (gB ⟨⟨a,b,n⟩,k⟩)):=by
 refine ay rfl (by kernel_rfl) (yw _ _ _ λg=>?_);simp[ai, *,rr,ia,cg,gB]
@[simp] def aje(n:Int):ax env 194 [aI n]=some (aB (zA n)):=by
 refine ay rfl (by kernel_rfl) (AF _ _ _ λg=>?_);have e:zA n=(decide (0<=n)&&(decide (n<=1114111)&&(decide (n<55296)||decide (57343<n)))):=by
  unfold zA;rw[Cy];simp only[fp,aT,iQb];omega
 rw[e];simp[ai, *,tw];repeat' ((first | apply ji<;>intro h | apply fY<;>intro h | apply fZ<;>intro h | apply fW<;>intro h | apply fX<;>intro h)<;>(try simp only[iQb,iQc,dI,kT,aT,fp]at h)<;>(try simp[ai, *]))
def Le{l:List Int}{x0:AV}(d:Sl 1 (rows l) x0)(u:l.length<4611686018427387904)(n : ∀a∈l, -2147483648<=a/\a<=2147483647){Q:AV->aa->Prop}{H:aa} :
 ∀(s:List Int)(k:Nat)(i:Int),l.drop k=s->k<=l.length->i=k->(∀y,y=aI (bad (s.all pv))->Q y H) ->
 bu env Tryz.f141 0 iz [(3,aI i),(0,x0)] H Q:=by
 intro s;induction s with
 | nil=>rintro k i hs hk rfl hQ;obtain rfl:=drop_nil hs hk;refine oK _ _ _ _ λg=>?_;simp[ai, *,fl,d.r];all_goals exact hQ _ rfl
 | cons a s m=>
  rintro k i hs hk rfl hQ;obtain⟨p,q,f,o⟩:=drop_cons hs;have v:=n a (by rw[<-q];exact je _);refine oK _ _ _ _ λg=>?_;have w:=iQa ((k:Int)+1) (by omega);have t:=iQa a (by omega);have c:pv a=(decide (a = -1)||zA a):=by simp[pv,zA,Bool.or_assoc]
  by_cases j:a = -1;·subst j;have b : ∀y,y=aI (bad (s.all pv))->Q y H:=λy e=>hQ y (by rw[e];simp[pv]);clear hQ;simp[ai, *,fl,d.r,d.idx,aR];exact m (k+1) _ f (by omega) (by simp) b
  cases h:zA a with| true=>have b : ∀y,y=aI (bad (s.all pv))->Q y H:=λy e=>hQ y (by rw[e];simp[c,h]);clear hQ c;simp[ai, *,fl,d.r,d.idx,aR];exact m (k+1) _ f (by omega) (by simp) b| false=>have b : ∀y,y=aI 8->Q y H:=λy e=>hQ y (by rw[e];simp[c,h,j]);clear hQ c;simp[ai, *,fl,d.r,d.idx,aR];all_goals exact b _ rfl
def JW{l:List Int}{x:AV}(b:Sl 1 (rows l) x)(d:l.length<4611686018427387904)(f : ∀a∈l, -2147483648<=a/\a<=2147483647):ax env 141 [x]=some (aI (BZ l)):=by
 refine ay rfl (by kernel_rfl) (xG _ _ _ λg=>?_);by_cases c:64<l.length
 ·have:(64:Int)<l.length:=by omega
  simp[ai, *,mq,BZ,b.r]
 have : ¬(64:Int)<l.length:=by omega
 have e:BZ l=bad (l.all pv):=by unfold BZ bad;rw[if_neg c]
 simp[ai, *,mq,b.r];exact Le b d f l 0 _ rfl (by omega) rfl (λy e=>by simp[e])
def QW(m:UInt8)(o:UInt8)(a_3:UInt32)(p:UInt8)(i:Int)(t:UInt8)(q:UInt32)(n:UInt8)(u:Int)(j:Int)(e:UInt8)(b:UInt32)(d:UInt8)(c:Int)(f:UInt8)(h:UInt32){x:AV}{l:List Int}(k:Sl 1 (rows l) x)(N:l.length<2000000)(H : ∀a∈l, -2147483648<=a/\a<=2147483647):ax env 73 [.agg [a8 m,a8 o,af a_3,a8 p,aI i,a8 t,af q,a8 n,aI u,aI j,a8 e,af b,a8 d,aI c,a8 f,af h,x]]=some (aB (mz (⟨m,⟨o,a_3,p⟩,i,⟨⟨⟨t,q,n⟩,u⟩,j⟩,⟨⟨e,b,d⟩,c⟩,⟨f,h⟩,l⟩:aw))):=by
 refine ay rfl (by kernel_rfl) (zn _ _ _ λg=>?_);have R:=JW k (by omega) H;have S:=BI l;unfold mz;cases M:mA ⟨o,a_3,p⟩ with
 | false=>simp[ai, *,aK,k.r]
 | true=>
 rcases Eo i 1 with B | I
 ·have I : ¬1<=i:=by omega
  simp[ai, *,aK,k.r]
 have B : ¬i<1:=by omega
 rcases Eo i 16777216 with J | C
 rotate_left
 ·have J : ¬i<16777216:=by omega
  simp[ai, *,aK,k.r]
 have C : ¬16777216<=i:=by omega
 cases Q:eN ⟨⟨⟨t,q,n⟩,u⟩,j⟩ with| false=>simp[ai, *,aK,k.r]| true=>
 by_cases k1:m=1
 ·subst k1;unfold CH;simp only[Is,if_true];cases y:wG (⟨f,h⟩:jW) with
  | false=>unfold wG at y;simp[ai, *,aK,k.r,ia,cg]
  | true=>
   unfold wG at y;cases E:Dq ⟨t,q,n⟩ ⟨o,a_3,p⟩ with
   | false=>
    unfold Dq at E;cases w:gB (⟨⟨e,b,d⟩,c⟩:bM) with
    | false=>cases F:E3 (⟨⟨e,b,d⟩,c⟩:bM)<;>simp[ai, *,aK,k.r,ia,cg]
    | true=>simp[ai, *,aK,k.r,ia,cg]
   | true=>
    unfold Dq at E;by_cases P:(l.length:Int)=j
    ·cases w:gB (⟨⟨e,b,d⟩,c⟩:bM) with| false=>cases F:E3 (⟨⟨e,b,d⟩,c⟩:bM)<;>simp[ai, *,aK,k.r,ia,cg]| true=>simp[ai, *,aK,k.r,ia,cg]
    cases w:gB (⟨⟨e,b,d⟩,c⟩:bM) with| false=>cases F:E3 (⟨⟨e,b,d⟩,c⟩:bM)<;>simp[ai, *,aK,k.r,ia,cg]| true=>simp[ai, *,aK,k.r,ia,cg]
 by_cases v:y4 (⟨m,⟨o,a_3,p⟩,i,⟨⟨⟨t,q,n⟩,u⟩,j⟩,⟨⟨e,b,d⟩,c⟩,⟨f,h⟩,l⟩:aw)=true
 ·have z:=v;simp only[y4,aT,iQb]at z;obtain⟨w,A⟩:=z;subst A;unfold CH;by_cases K:m=2
  ·subst K;simp only[Ob,if_true];cases y:wG (⟨f,h⟩:jW) with
   | false=>unfold wG at y;simp[ai, *,aK,k.r,ia,cg]
   | true=>unfold wG at y;simp[ai, *,aK,k.r,ia,cg]
  by_cases G:m=3;·subst G;simp only[Ld,if_true];simp[ai, *,aK,k.r,ia,cg]
  simp[ai, *,aK,k.r,ia,cg]
 have O:CH (⟨m,⟨o,a_3,p⟩,i,⟨⟨⟨t,q,n⟩,u⟩,j⟩,⟨⟨e,b,d⟩,c⟩,⟨f,h⟩,l⟩:aw)=false:=(by have D:y4 (⟨m,⟨o,a_3,p⟩,i,⟨⟨⟨t,q,n⟩,u⟩,j⟩,⟨⟨e,b,d⟩,c⟩,⟨f,h⟩,l⟩:aw)=false:=(by simpa using v);unfold CH Ob Ld;rw[D];simp[k1]);simp only[y4,aT,iQb,not_and]at v;cases w:gB (⟨⟨e,b,d⟩,c⟩:bM) with
 | false=>clear v;simp[ai, *,aK,k.r,ia,cg]
 | true=>have A:0<l.length:=Gw.2 (v w);have L : ¬l=[]:=v w;clear v;simp[ai, *,aK,k.r,ia,cg]
end
section
attribute [local simp] aJ az aX lZ
@[simp] def ajc(q:ak):ax env 179 [.agg [a8 q.lv,af q.cats,aI q.opens,aI q.ops,aI q.cells]]=some (aB (EK q)):=by
 refine ay rfl (by kernel_rfl) (zp _ _ _ λg=>?_);simp[ai, *,sM];repeat' ((first | apply ji<;>intro h | apply fY<;>intro h | apply fZ<;>intro h | apply fW<;>intro h | apply fX<;>intro h)<;>(try simp only[iQb,iQc,dI,kT,aT,fp]at h)<;>(try simp[ai, *,EK]))
def On(b:UInt32)(n:Nat):Bool:=decide ((b >>> UInt32.ofNat n) % 2=1)
@[simp] def ajR(a:UInt8)(b:UInt32)(n:Nat)(d:n<32):ax env 201 [.agg [a8 a,af b],aI n]=some (aB (On b n)):=by
 refine ay rfl (by kernel_rfl) (zw _ _ _ _ λg=>?_);have c:(n:Int)<=4294967296:=by omega
 have e:(n:Int)<32:=by omega
 simp[ai, *,sQ,On]
def sh(b d:UInt32):Nat->Nat->Bool
 | 0,_=>true
 | m+1,n => !(On b n && !On d n)&&sh b d m (n+1)
def SK{a c:UInt8}{b d:UInt32}{r1 r2:Ref}{Q:AV->aa->Prop} : ∀(m n:Nat)(i:Int)(H:aa),n+m=32->i=n->Fr H->H.get r1=some ⟨2,[.agg [a8 a,af b]],false,false⟩->H.get r2=some ⟨2,[.agg [a8 c,af d]],false,false⟩ ->
 (∀y H',y=aB (sh b d m n&&decide (a<=c))->Q y H') ->
 bu env Tryz.f144 0 jI [(5,aI i),(3,.ptr r2 0 0),(2,.ptr r1 0 0)] H Q:=by
 intro m;induction m with
 | zero=>
  rintro n i H hn rfl hF h1 h2 hQ;obtain rfl:n=32:=by omega
  refine pP _ _ _ _ _ λg=>?_;simp[ai, *,mr];all_goals (first | exact hQ _ _ rfl | exact hQ _ _ (by simp[*,sh]))
 | succ m p=>
  rintro n i H hn rfl hF h1 h2 hQ;have o:n<32:=by omega
  have l:(n:Int)<32:=(by omega);refine pP _ _ _ _ _ λg=>?_;simp[ai, *,mr];have e:=iQa ((n:Int)+1) (by omega);have f:=p (n+1) _ H (by omega) rfl hF h1 h2;cases k:On b n<;>cases j:On d n;·simp[*];exact f λy H' h=>hQ y H' (by simp[h,sh,k,j])
  ·simp[*];exact f λy H' h=>hQ y H' (by simp[h,sh,k,j])
  ·simp[*];exact hQ _ _ (by simp[sh,k,j])
  simp[*];exact f λy H' h=>hQ y H' (by simp[h,sh,k,j])
def Xd(b:UInt32)(n:Nat)(c:n<32):On b n=b.toBitVec.getLsbD n:=by
 unfold On;have a:((b >>> UInt32.ofNat n) % 2=1)↔((b >>> UInt32.ofNat n) % 2).toNat=1:=by rw[<-GQ];rfl
 rw[Cy,iQb,a,UInt32.toNat_mod,iQF,iQU,BitVec.getLsbD,Nat.testBit_eq_decide_div_mod_eq,iQB,iQb];have:n % 2 ^ 32 % 32=n:=by omega
 rw[this];rfl
def Nu(b d:UInt32) : ∀(m n:Nat),n+m=32->(sh b d m n=true ↔ ∀k,n<=k->k<32->(b.toBitVec &&& ~~~d.toBitVec).getLsbD k=false):=by
 intro m;induction m with
 | zero=>intro n g;simp only[sh,true_iff];intro k f c;omega
 | succ m i=>
  intro n g;have a:n<32:=by omega
  simp only[sh,aT,i (n+1) (by omega),Xd _ _ a];constructor
  ·rintro⟨f,c⟩ k hk hk2;by_cases e:k=n;·subst e;simp only[KD,KC,hk2,decide_true,m9];revert f;cases b.toBitVec.getLsbD k<;>cases d.toBitVec.getLsbD k<;>simp
   exact c k (by omega) hk2
  intro h;refine⟨?_,λk f c=>h k (by omega) c⟩;have:=h n (cH _) a;simp only[KD,KC,a,decide_true,m9]at this;revert this;cases b.toBitVec.getLsbD n<;>cases d.toBitVec.getLsbD n<;>simp
def Nv(b d:UInt32):sh b d 32 0=decide (b &&& ~~~d=0):=by
 rw[Cy,Nu b d 32 0 (by omega),iQb];constructor;·intro h;apply UInt32.toBitVec_inj.1;apply iQH;intro i a;simpa using h i (by omega) a
 intro h k _ _;have:=iQg UInt32.toBitVec h;simp only[OS,OR]at this;rw[this];simp
def CB(a:UInt8)(b:UInt32)(c:UInt8)(d:UInt32):ax env 144 [.agg [a8 a,af b],.agg [a8 c,af d]]=some (aB (Wr a b c d)):=by
 refine ay rfl (by kernel_rfl) (zy _ _ _ _ λg=>?_);simp[ai, *,sS];exact SK (a:=a) (b:=b) (c:=c) (d:=d) 32 0 _ _ rfl rfl (by simp(maxDischargeDepth:=12) [BV, *]) (by simp(maxDischargeDepth:=12) [BV, *]) (by simp(maxDischargeDepth:=12) [BV, *]) λy H' e=>by simp[e,Nv,Wr,Bool.and_comm]
attribute [local simp] CB
@[simp] def afM(a:UInt8)(b:UInt32)(c:UInt8)(d:UInt32):ax env 180 [.agg [a8 a,af b],.agg [a8 c,af d]]=some (aB (IX a b c d)):=by
 refine ay rfl (by kernel_rfl) (xH _ _ _ _ λg=>?_);have e:=a.toNat_lt;have l:=b.toNat_lt;have i:=c.toNat_lt;have j:=d.toNat_lt;have f:IntKind.i64.wrap ((a.toNat:Int) * 4294967296)=(a.toNat:Int) * 4294967296:=iQa _ (by omega);have h:IntKind.i64.wrap ((c.toNat:Int) * 4294967296)=(c.toNat:Int) * 4294967296:=iQa _ (by omega);have m:IntKind.i64.wrap ((a.toNat:Int) * 4294967296+b.toNat)=(a.toNat:Int) * 4294967296+b.toNat:=iQa _ (by omega);have k:IntKind.i64.wrap ((c.toNat:Int) * 4294967296+d.toNat)=(c.toNat:Int) * 4294967296+d.toNat:=iQa _ (by omega);simp[ai, *,qn,IX];rw[Cy];simp only[fp,aT,iQb,OZ,iQI,<-C0];omega
end
section
attribute [local simp] aJ az aX lZ
attribute [local simp] CB
def ahf(n:Int)(q:ak):Int:=IntKind.i64.wrap (IntKind.i64.wrap (n+q.opens)+IntKind.i64.wrap (4 * q.ops))
def MI(n:Int)(l:List ak):Int:=l.foldl ahf n
def aaU(n:Int)(q:ak):Int:=IntKind.i64.wrap (n+q.cells)
def CD(n:Int)(l:List ak):Int:=l.foldl aaU n
def PE(n:Int):CD n []=n:=id rfl
section
variable{p o:AV}{us:List Clear}{qs:List ak}{gr:Int}(f:Sl 3 (de us) p)(d:Sl 5 (cR qs) o)(m:qs.length<4611686018427387904)(j:us.length<4611686018427387904)
include f d m j
theorem SE{r1:Ref}{Q:AV->aa->Prop} : ∀(s:List ak)(k:Nat)(i n:Int)(H:aa),qs.drop k=s->k<=qs.length->i=k ->
 Fr H->H.get r1=some ⟨3,[.agg [p,o,aI gr]],false,false⟩->(∀y H',y=aI (MI n s)->Q y H') ->
 bu env Tryz.f181 0 jG [(4,aI i),(1,.ptr r1 0 0),(3,aI n)] H Q:=by
 intro s;induction s with
 | nil=>rintro k i n H hs hk rfl hF hB hQ;obtain rfl:=drop_nil hs hk;refine pM _ _ _ _ _ λg=>?_;simp[ai, *,mm,d.r];all_goals (first | exact hQ _ _ rfl | exact hQ _ _ (by simp[*]))
 | cons q s e=>rintro k i n H hs hk rfl hF hB hQ;obtain⟨c,h,a,b⟩:=drop_cons hs;refine pM _ _ _ _ _ λg=>?_;simp[ai, *,mm,d.r,d.idx,ak.enc,iQa ((k:Int)+1) (by omega)];exact e (k+1) _ _ _ a (by omega) (by simp) hF hB hQ
@[simp] theorem afK:ax env 181 [.agg [p,o,aI gr]]=some (aI (MI gr qs)):=by
 refine ay rfl (by kernel_rfl) (zq _ _ _ λg=>?_);simp[ai, *,sN,f.r,d.r];exact SE (gr:=gr) f d m j qs 0 _ _ _ rfl (by omega) rfl (by simp(maxDischargeDepth:=12) [BV, *]) (by simp(maxDischargeDepth:=12) [BV, *]) λy H' e=>by simp[e]
theorem Yp{r1:Ref}{Q:AV->aa->Prop} : ∀(s:List ak)(k:Nat)(i n:Int)(H:aa),qs.drop k=s->k<=qs.length->i=k ->
 Fr H->H.get r1=some ⟨3,[.agg [p,o,aI gr]],false,false⟩->(∀y H',y=aB (decide (MI gr qs<=2048)&&decide (CD n s<=8192))->Q y H') ->
 bu env Tryz.f134 0 gU [(6,aI i),(1,.ptr r1 0 0),(5,aI n)] H Q:=by
 intro s;induction s with
 | nil=>
  rintro k i n H hs hk rfl hF hB hQ;obtain rfl:=drop_nil hs hk;refine oa _ _ _ _ _ λg=>?_;have:=afK (gr:=gr) f d m j;simp[ai, *,kR,d.r,f.r];repeat' ((first | apply ji<;>intro h | apply fY<;>intro h | apply fZ<;>intro h | apply fW<;>intro h | apply fX<;>intro h)<;>(try simp only[iQb,iQc,dI,kT,aT,fp]at h)<;>(try simp[ai, *,d.r,f.r]))
  all_goals (first | exact hQ _ _ rfl | exact hQ _ _ (by simp[*,PE]))
 | cons q s e=>rintro k i n H hs hk rfl hF hB hQ;obtain⟨c,l,a,b⟩:=drop_cons hs;refine oa _ _ _ _ _ λg=>?_;simp[ai, *,kR,d.r,d.idx,ak.enc,iQa ((k:Int)+1) (by omega)];exact e (k+1) _ _ _ a (by omega) (by simp) hF hB hQ
theorem abk{r1:Ref}{Q:AV->aa->Prop} : ∀(s:List ak)(k:Nat)(i:Int)(H:aa),qs.drop k=s->k<=qs.length->i=k ->
 Fr H->H.get r1=some ⟨3,[.agg [p,o,aI gr]],false,false⟩->(∀y H',y=aB (zG (if k=0 then none else qs[k - 1]?) s&&(decide (MI gr qs<=2048)&&decide (CD 0 qs<=8192)))->Q y H') ->
 bu env Tryz.f134 0 iw [(4,aI i),(1,.ptr r1 0 0)] H Q:=by
 intro s;induction s with
 | nil=>rintro k i H hs hk rfl b c hQ;obtain rfl:=drop_nil hs hk;refine oI _ _ _ _ λg=>?_;simp[ai, *,iH,d.r];exact Yp (gr:=gr) f d m j qs 0 _ _ _ rfl (by omega) rfl b c λy H' e=>hQ _ _ (by simp[e,zG])
 | cons q s v=>
  rintro k i H hs hk rfl b c hQ;obtain⟨u,D,a,t⟩:=drop_cons hs;have l:=v (k+1);refine oI _ _ _ _ λg=>?_;cases k with
  | zero=>
   have w:IntKind.i64.wrap 1=1:=rfl;simp[ai, *,iH,d.r,d.idx,ak.enc];repeat' ((first | apply ji<;>intro h | apply fY<;>intro h | apply fZ<;>intro h | apply fW<;>intro h | apply fX<;>intro h)<;>(try simp only[iQb,iQc,dI,kT,aT,fp]at h)<;>(try simp[ai, *,d.r,d.idx]))
   ·all_goals (first | exact hQ _ _ rfl | exact hQ _ _ (by simp[*,zG]))
   exact l _ _ a (by omega) rfl b c λy H' e=>hQ y H' (by simpa [*,zG] using e)
  | succ k=>
   have w:IntKind.i64.wrap ((k:Int)+1+1)=(k:Int)+1+1:=iQa _ (by omega);have C:IntKind.i64.wrap (k:Int)=k:=iQa _ (by omega);have A : ¬(k:Int)+1=0:=by omega
   have x:k<qs.length:=(by omega);have z:(k:Int)+1<qs.length:=(by omega);have F:(0:Int)<=k+1:=(by omega);have E:(0:Int)<(k:Int)+1:=(by omega);have B:(k:Int)<qs.length:=(by omega);have n:qs[k]?=some qs[k]:=dy x;simp[ai, *,iH,d.r,d.idx,ak.enc];repeat' ((first | apply ji<;>intro h | apply fY<;>intro h | apply fZ<;>intro h | apply fW<;>intro h | apply fX<;>intro h)<;>(try simp only[iQb,iQc,dI,kT,aT,fp]at h)<;>(try simp[ai, *,d.r,d.idx,ak.enc]))
   all_goals first
    | exact hQ _ _ (by simp[*,zG,Dw])
    | exact l _ _ a (by omega) (by simp) b c λy H' e=>hQ y H' (by simpa [*,zG,Dw] using e)
    | skip
theorem abl{r1:Ref}{Q:AV->aa->Prop} : ∀(s:List Clear)(k:Nat)(i:Int)(H:aa),us.drop k=s->k<=us.length->i=k ->
 Fr H->H.get r1=some ⟨3,[.agg [p,o,aI gr]],false,false⟩->(∀y H',y=aB (s.all (λc=>o6 c.lv c.cats c.ok)&&(zG none qs&&(decide (MI gr qs<=2048)&&decide (CD 0 qs<=8192))))->Q y H') ->
 bu env Tryz.f134 0 iy [(3,aI i),(1,.ptr r1 0 0)] H Q:=by
 intro s;induction s with
 | nil=>rintro k i H hs hk rfl hF hB hQ;obtain rfl:=drop_nil hs hk;refine oJ _ _ _ _ λg=>?_;simp[ai, *,lg,f.r];exact abk (gr:=gr) f d m j qs 0 _ _ rfl (by omega) rfl hF hB λy H' e=>hQ _ _ (by simp[e])
 | cons c s n=>
  rintro k i H hs hk rfl hF hB hQ;obtain⟨l,q,a,b⟩:=drop_cons hs;refine oJ _ _ _ _ λg=>?_;simp[ai, *,lg,f.r,f.idx,Clear.enc,iQa ((k:Int)+1) (by omega)];repeat' ((first | apply ji<;>intro h | apply fY<;>intro h | apply fZ<;>intro h | apply fW<;>intro h | apply fX<;>intro h)<;>(try simp only[iQb,iQc,dI,kT,aT,fp]at h)<;>(try simp[ai, *,f.r,iQa ((k:Int)+1) (by omega)]))
  exact n (k+1) _ _ a (by omega) (by simp) hF hB λy H' e=>hQ y H' (by simpa [*] using e)
def HP(us:List Clear)(qs:List ak)(gr:Int):Bool:=
 (!decide (8<us.length)&&(!decide (8<qs.length)&&(!decide (gr<0) && !decide (64<gr))))&&(us.all (λc=>o6 c.lv c.cats c.ok)&&(zG none qs&&(decide (MI gr qs<=2048)&&decide (CD 0 qs<=8192))))
theorem U0:ax env 134 [.agg [p,o,aI gr]]=some (aB (HP us qs gr)):=by
 refine ay rfl (by kernel_rfl) (xD _ _ _ λg=>?_);have e8 (n:Nat):((8:Int)<(n:Int))↔8<n:=by omega
 simp[ai, *,ql,f.r,d.r];repeat' ((first | apply ji<;>intro h | apply fY<;>intro h | apply fZ<;>intro h | apply fW<;>intro h | apply fX<;>intro h)<;>(try simp only[iQb,iQc,dI,kT,aT,fp]at h)<;>(try simp[ai, *,f.r,d.r,HP]))
 refine abl (gr:=gr) f d m j us 0 _ _ rfl (by omega) rfl (by simp(maxDischargeDepth:=12) [BV, *]) (by simp(maxDischargeDepth:=12) [BV, *]) λy H' e=>?_;simp[*,HP]
omit f d in
theorem Vr : ∀ {l:List ak} {n:Int},(∀q∈l,EK q=true)->0<=n->n+1088 * l.length<=4611686018427387904->MI n l=F7 n l:=by
 intro l;induction l with
 | nil=>intro n _ b a;rfl
 | cons q l i=>intro n h b a;have d:=Gi (h q (gy ..));simp only[qO]at a;have c:IntKind.i64.wrap (4 * q.ops)=4 * q.ops:=iQa _ (by omega);have e:IntKind.i64.wrap (n+q.opens)=n+q.opens:=iQa _ (by omega);have k:IntKind.i64.wrap (n+q.opens+4 * q.ops)=n+q.opens+4 * q.ops:=iQa _ (by omega);have:=i (n:=n+q.opens+4 * q.ops) (λx g=>h x (fO _ g)) (by omega) (by omega);simp only[MI,F7,tZ,ahf,c,e,k]at this ⊢;exact this
omit f d in
theorem PD : ∀ {l:List ak} {n:Int},(∀q∈l,EK q=true)->0<=n->n+4096 * l.length<=4611686018427387904->CD n l=UH n l:=by
 intro l;induction l with
 | nil=>intro n _ b a;rfl
 | cons q l g=>intro n h b a;have d:=Gi (h q (gy ..));simp only[qO]at a;have e:IntKind.i64.wrap (n+q.cells)=n+q.cells:=iQa _ (by omega);have:=g (n:=n+q.cells) (λx c=>h x (fO _ c)) (by omega) (by omega);simp only[CD,UH,tZ,aaU,e]at this ⊢;exact this
omit f d in
theorem SL:HP us qs gr=uj us qs gr:=by
 rw[Nb,HP];by_cases c:us.length<=8
 ·by_cases h:qs.length<=8
  ·by_cases e:0<=gr/\gr<=64
   ·cases l:zG none qs with| false=>simp| true=>
     have i:=MV l;rw[Vr m j i e.1 (by omega),PD m j i (by omega) (by omega)];have a : ¬8<us.length:=by omega
     have b : ¬8<qs.length:=(by omega);have k : ¬gr<0:=(by omega);have n : ¬64<gr:=(by omega);simp[c,h,e,a,b,k,n]
   have:(decide (0<=gr)&&decide (gr<=64))=false:=by simp;omega
   have g:(!decide (gr<0) && !decide (64<gr))=false:=by simp;omega
   simp[this,g]
  have b:8<qs.length:=(by omega);simp[h,b]
 have a:8<us.length:=by omega
 simp[c,a]
@[simp] theorem Ye:ax env 134 [.agg [p,o,aI gr]]=some (aB (uj us qs gr)):=by
 rw[U0 f d m j,SL m j]
@[simp] theorem Q0(c:Int)(a:UInt8)(b:UInt32):ax env 158 [.agg [p,o,aI gr],aI c,.agg [a8 a,af b]]=some (aB (pD us c a b)):=by
 refine ay rfl (by kernel_rfl) (xE _ _ _ _ _ λg=>?_);by_cases e:0<=c/\c<us.length
 ·obtain⟨n,rfl⟩:=GY e.1;have k:n<us.length:=by omega
  simp[ai, *,mo,f.r,d.r,f.idx,pD,Clear.enc];repeat' ((first | apply ji<;>intro h | apply fY<;>intro h | apply fZ<;>intro h | apply fW<;>intro h | apply fX<;>intro h)<;>(try simp only[iQb,iQc,dI,kT,aT,fp]at h)<;>(try simp[ai, *,f.r,d.r,f.idx,pD,Clear.enc]))
 have i:0<=c ->¬c<us.length:=by omega
 simp[ai, *,mo,f.r,d.r,f.idx,pD,Clear.enc];repeat' ((first | apply ji<;>intro h | apply fY<;>intro h | apply fZ<;>intro h | apply fW<;>intro h | apply fX<;>intro h)<;>(try simp only[iQb,iQc,dI,kT,aT,fp]at h)<;>(try simp[ai, *,f.r,d.r,f.idx,pD,Clear.enc]))
end
end
section
attribute [local simp] aJ az au aG aF aX lZ aO aE aH bT bS bg aP an bA gj
def K5(a:UInt8)(b:UInt32)(c:UInt8)(d:UInt32):ax env 144 [.agg [a8 a,af b],.agg [a8 c,af d]]=some (aB (rG ⟨a,b⟩ ⟨c,d⟩)):=CB a b c d
attribute [local simp] K5
def U8(c:UInt8)(a:UInt32)(a_3:UInt8)(b:Int)(i:Int)(f:UInt8)(h:UInt32)(d:UInt8)(j:Int)(k:eN (⟨⟨⟨c,a,a_3⟩,b⟩,i⟩:wm)=true):ax env 245 [.agg [a8 c,af a,a8 a_3,aI b,aI i],.agg [a8 f,af h,a8 d,aI j]]=some (aB (hasB (⟨⟨⟨c,a,a_3⟩,b⟩,i⟩:wm) (⟨⟨f,h,d⟩,j⟩:bM))):=by
 refine ay rfl (by kernel_rfl) (zj _ _ _ _ λg=>?_);have l:=gS k;simp only at l;have n:=iQa (b+i) (by omega);have m:decide ((⟨c,a,a_3⟩:xn)=⟨f,h,d⟩)=(decide (c=f)&&decide (a=h)&&decide (a_3=d)):=by
  simp[AJ]
 have e:hasB (⟨⟨⟨c,a,a_3⟩,b⟩,i⟩:wm) (⟨⟨f,h,d⟩,j⟩:bM)=((decide (c=f)&&decide (a=h)&&decide (a_3=d))&&(decide (b<=j)&&decide (j<b+i))):=by
  rw[<-m];simp only[hasB,k,m9]
 rw[e];clear e m l;cases p:(decide (c=f)&&decide (a=h)&&decide (a_3=d)) with
 | false=>simp[ai, *,kQ,ia,cg]
 | true=>
  by_cases o:b<=j;·simp[ai, *,kQ,ia,cg]
  simp[ai, *,kQ,ia,cg]
def Qy{x0:AV}{Q:AV->aa->Prop}{l:List jW}(f:Sl 2 (kL l) x0)(u:l.length<4611686018427387904){a:UInt8}{b:UInt32}{r3:Ref}{H:aa}(w:H.get r3=some ⟨2,[.agg [a8 a,af b]],false,false⟩) :
 ∀(s:List jW)(k:Nat)(i:Int),l.drop k=s->k<=l.length->i=k->(∀y,y=aB (decide ((⟨a,b⟩:jW)∈s))->Q y H) ->
 bu env Tryz.f223 0 ir [(5,aI i),(3,.ptr r3 0 0),(0,x0)] H Q:=by
 intro s;induction s with
 | nil=>rintro k i hs hk rfl hQ;obtain rfl:=drop_nil hs hk;refine oF _ _ _ _ _ λg=>?_;simp[ai, *,iE,f.len];all_goals exact hQ _ (by simp)
 | cons t s q=>
  rintro k i hs hk rfl hQ;obtain⟨t1,t2⟩:=t;obtain⟨p,v,j,o⟩:=drop_cons hs;refine oF _ _ _ _ _ λg=>?_;have x:=iQa ((k:Int)+1) (by omega);have d:((⟨a,b⟩:jW)=⟨t1,t2⟩)=((decide (t1=a)&&decide (t2=b))=true):=by
   rw[eq_iff_iff];simp only[jW.mk.injEq,aT,iQb];exact⟨λh=>⟨h.1.symm,h.2.symm⟩,λh=>⟨h.1.symm,h.2.symm⟩⟩
  cases n:(decide (t1=a)&&decide (t2=b)) with| true=>rw[n]at d;have c : ∀y,y=aB true->Q y H:=λy e=>hQ y (by rw[e,iQj (by rw[eD];exact .inl (by rw[d]))]);clear d hQ;simp[ai, *,iE,f.len,f.idx,kL,ia,cg];all_goals exact c _ rfl| false=>
   rw[n]at d;have m : ¬(⟨a,b⟩:jW)=⟨t1,t2⟩:=by rw[d];simp
   have c : ∀y,y=aB (decide ((⟨a,b⟩:jW)∈s))->Q y H:=λy e=>hQ y (by rw[e];exact iQg aB (decide_eq_decide.2 ⟨fO _,λh=>(eD.1 h).resolve_left m⟩));clear d hQ m;simp[ai, *,iE,f.len,f.idx,kL,ia,cg];exact q (k+1) _ j (by omega) (by simp) c
def QV{x:AV}{l:List jW}(c:Sl 2 (kL l) x)(d:l.length<4611686018427387904)(a:UInt8)(b:UInt32):ax env 223 [x,.agg [a8 a,af b]]=some (aB (decide (⟨a,b⟩∈l))):=by
 refine ay rfl (by kernel_rfl) (xA _ _ _ _ λg=>?_);simp[ai, *,qh,c.r];exact Qy c d (a:=a) (b:=b) (by simp) l 0 _ rfl (by omega) rfl (λy e=>by simp[e])
def iX(l:List aw)(i:bM)(v:jW):List jW:=(l.filter λo=>kK o i v).map (·.to)
def Du(o:aw)(l:List aw)(i:bM)(v:jW):iX (o :: l) i v=if kK o i v then o.to :: iX l i v else iX l i v:=by
 unfold iX;rw[AL];split<;>simp_all
def Ls(l:List aw)(i:bM)(v:jW) : ∀out,vQ out l i v=(iX l i v).foldl sX out:=by
 induction l with| nil=>intro out;rfl| cons o l a=>intro out;show vQ (if kK o i v then sX out o.to else out) l i v=_;rw[a,Du];split<;>rfl
def MU(l:List aw)(i:bM)(v:jW):(iX l i v).length<=l.length:=by
 unfold iX;rw[pI];exact GU _ _
def K9{l:List (aw × AV)}{x0:AV}(D:Sl 17 (bf l) x0)(S : ∀p∈l,ET p)(hsp : ∀p∈l,eN p.1.s=true)(hl:l.length<100000)(c:UInt8)(j:UInt32)(f:UInt8)(d:Int)(C:UInt8)(v:UInt32){r4 r5:Ref}{Q:AV->aa->Prop}
 (W:r4.t=4) (hn5:r5.t=5) :
 ∀(s:List (aw × AV)) (k:Nat) (i:Int) (acc:List jW) (L:AV) (H:aa),l.drop k=s->k<=l.length->i=k->acc.length<=k->Fr H->H.get r4=some ⟨4,[.agg [a8 c,af j,a8 f,aI d]],false,false⟩->H.get r5=some ⟨2,[.agg [a8 C,af v]],false,false⟩->qq [47] 2 (kL acc) H L->(acc=[]->L=bI) ->
 (∀y H',qq [47] 2 (kL (acc++iX (opsOf s) (⟨⟨c,j,f⟩,d⟩:bM) ⟨C,v⟩)) H' y->(acc++iX (opsOf s) (⟨⟨c,j,f⟩,d⟩:bM) ⟨C,v⟩=[]->y=bI)->Q y H') ->
 bu env Tryz.f238 0 eR [(8,aI i),(0,x0),(7,L),(5,.ptr r5 0 0),(4,.ptr r4 0 0)] H Q:=by
 intro s;induction s with
 | nil=>rintro k i acc L H hs hk rfl ha hF h4 h5 hO hN hQ;obtain rfl:=drop_nil hs hk;refine n8 _ _ _ _ _ _ _ λg=>?_;have M:=hQ L H (by simpa [opsOf,iX] using hO) (by simpa [opsOf,iX] using hN);clear hO hQ hN;simp[ai, *,cO,D.r];all_goals exact M
 | cons p s T=>
  rintro k i acc L H hs hk rfl ha hF h4 h5 hO hN hQ;obtain⟨hlt,hg,I,hg'⟩:=drop_cons hs;have hp:=S p (by rw[<-hg];exact je _);have R:=hsp p (by rw[<-hg];exact je _);obtain⟨⟨J,⟨G,a_3,O⟩,N,⟨⟨⟨z,B,u⟩,A⟩,m⟩,⟨⟨F,o,E⟩,q⟩,⟨b,a⟩,Y⟩,x⟩:=p;obtain⟨n,Z⟩:=hp;simp only at n Z R;have hh:=U8 z B u A m c j f d R;have e3:=iQa ((k:Int)+1) (by omega);have w:iX (opsOf (((⟨J,⟨G,a_3,O⟩,N,⟨⟨⟨z,B,u⟩,A⟩,m⟩,⟨⟨F,o,E⟩,q⟩,⟨b,a⟩,Y⟩:aw),x) :: s)) (⟨⟨c,j,f⟩,d⟩:bM) ⟨C,v⟩=if kK (⟨J,⟨G,a_3,O⟩,N,⟨⟨⟨z,B,u⟩,A⟩,m⟩,⟨⟨F,o,E⟩,q⟩,⟨b,a⟩,Y⟩:aw) (⟨⟨c,j,f⟩,d⟩:bM) ⟨C,v⟩ then ⟨b,a⟩ :: iX (opsOf s) (⟨⟨c,j,f⟩,d⟩:bM) ⟨C,v⟩ else iX (opsOf s) (⟨⟨c,j,f⟩,d⟩:bM) ⟨C,v⟩:=Du _ _ _ _
  rw[w]at hQ;clear w;refine n8 _ _ _ _ _ _ _ λg=>?_;cases K:kK (⟨J,⟨G,a_3,O⟩,N,⟨⟨⟨z,B,u⟩,A⟩,m⟩,⟨⟨F,o,E⟩,q⟩,⟨b,a⟩,Y⟩:aw) (⟨⟨c,j,f⟩,d⟩:bM) ⟨C,v⟩ with
  | false=>
   rw[K,if_neg (by decide)]at hQ;by_cases X:J=3
   ·subst X;cases hb:hasB ⟨⟨⟨z,B,u⟩,A⟩,m⟩ (⟨⟨c,j,f⟩,d⟩:bM) with
    | false=>clear K;simp[ai, *,cO,D.r,D.idx,bf,wC,n.r];exact T (k+1) _ acc L _ I (by omega) (by simp) (by omega) hF h4 h5 hO hN hQ
    | true=>have hq:rG ⟨G,a_3⟩ ⟨C,v⟩=false:=(by simp only[kK,hb,decide_true,m9,LJ]at K;exact K);clear K;simp[ai, *,cO,D.r,D.idx,bf,wC,n.r];exact T (k+1) _ acc L _ I (by omega) (by simp) (by omega) hF h4 h5 hO hN hQ
   clear K;simp[ai, *,cO,D.r,D.idx,bf,wC,n.r];exact T (k+1) _ acc L _ I (by omega) (by simp) (by omega) hF h4 h5 hO hN hQ
  | true=>
   rw[K,if_pos rfl]at hQ;simp only[kK,aT,iQb,LJ]at K;obtain⟨X,hb,hq⟩:=K;subst X;have M : ∀y H',qq [47] 2 (kL ((acc++[⟨b,a⟩])++iX (opsOf s) (⟨⟨c,j,f⟩,d⟩:bM) ⟨C,v⟩)) H' y->(((acc++[⟨b,a⟩])++iX (opsOf s) (⟨⟨c,j,f⟩,d⟩:bM) ⟨C,v⟩)=[]->y=bI)->Q y H':=λy H' h hn=>hQ y H' (by simpa using h) (λe=>by simp at e);clear hQ hN;have P:=λU H'=>T (k+1) ((k:Int)+1) (acc++[⟨b,a⟩]) U H' I (by omega) (by simp) (by simp;omega);clear T;have l4:(H.get r4).isSome=true:=by rw[h4];rfl
   have l5:(H.get r5).isSome=true:=by rw[h5];rfl
   rcases hO with ⟨rfl,hz⟩ | ⟨t,gg,ht,rfl,V⟩
   ·have hz':acc=[]:=(by simpa using hz);subst hz';have hO0 : ∀(x:AV)(H':aa),qq [47] 2 (kL [⟨b,a⟩]) H' x->qq [47] 2 (kL ([]++[⟨b,a⟩])) H' x:=λx H' h=>h;simp[ai, *,cO,D.r,D.idx,bf,wC,n.r];exact P _ _ (by simp(maxDischargeDepth:=12) [fN, *]) (by simp(maxDischargeDepth:=12) [fN, *]) (by simp(maxDischargeDepth:=12) [fN, *]) (hO0 _ _ (by simp[kL])) (λh=>by simp at h) M
   rw[nc]at ht;subst ht;have l6:(H.get ⟨0,47,gg,0⟩).isSome=true:=by rw[V];rfl
   have n4:r4≠⟨0,47,gg,0⟩:=by rintro rfl;simp at W
   have n5:r5≠⟨0,47,gg,0⟩:=by rintro rfl;simp at hn5
   have f1:acc.length+1<=17592186044416:=(by omega);have f2:ow 2 8 acc.length true none (some ⟨2,kL acc,true,false⟩) (some [.agg [a8 b,af a]]):=(by simp;omega);simp[ai, *,cO,D.r,D.idx,bf,wC,n.r];exact P _ _ (by simp(maxDischargeDepth:=12) [fN, *]) (by simp(maxDischargeDepth:=12) [fN, *]) (by simp(maxDischargeDepth:=12) [fN, *]) (by simp[kL]) (λh=>by simp at h) M
def Sm{l:List (aw × AV)}{x0:AV}(v:Sl 17 (bf l) x0)(f : ∀p∈l,ET p)(n : ∀p∈l,eN p.1.s=true)(q:l.length<100000)(a:UInt8)(d:UInt32)(c:UInt8)(b:Int)(j:UInt8)(i:UInt32) :
 ax env 238 [x0,.agg [a8 a,af d,a8 c,aI b],.agg [a8 j,af i]]=some (ep 2 (kL (iX (opsOf l) (⟨⟨a,d,c⟩,b⟩:bM) ⟨j,i⟩))):=by
 refine ay rfl (by kernel_rfl) (wy _ _ _ _ _ λg=>?_);simp[ai, *,py];refine K9 v f n q a d c b j i (by rfl) (by rfl) l 0 _ [] _ _ rfl (by omega) rfl (by simp) (by simp(maxDischargeDepth:=12) [BV, *]) (by simp) (by simp) (.inl ⟨rfl,rfl⟩) (λ_=>rfl) (λy H' h o=>?_);rw[sZ]at h o;rcases h with ⟨rfl,u⟩ | ⟨t,gg,w,rfl,k⟩
 ·rw[u];simp[ep]
 have m:kL (iX (opsOf l) (⟨⟨a,d,c⟩,b⟩:bM) ⟨j,i⟩)≠[]:=(by intro e;rw[Lu]at e;cases o e);rw[qv 2 m];rw[Nz]at *;simp[k]
def I6(out:List jW)(H:aa)(x:AV):Prop :=∃r c,x = .bN r 0 out.length c/\H.get r=some ⟨2,kL out,true,false⟩/\((c=some 1/\out.length=1 /\∃g,r=⟨0,13,g,0⟩)\/(c=none/\1<out.length /\∃g,r=⟨0,37,g,0⟩))
def I6.aX{out:List jW}{H H':aa}{x:AV}(h:I6 out H x)(f : ∀r b,H.get r=some b->r.t≠36->H'.get r=some b):I6 out H' x:=by
 obtain⟨r,c,e,d,a⟩:=h;refine⟨r,c,e,f r _ d ?_,a⟩;rcases a with ⟨_,_,g,rfl⟩ | ⟨_,_,g,rfl⟩<;>simp
def Vs{all:List jW}{C:AV}(m:Sl 2 (kL all) C)(K:all.length<100000){Q:AV->aa->Prop} :
 ∀(s:List jW)(k:Nat)(i:Int)(out:List jW)(p:AV)(H:aa),all.drop k=s->k<=all.length->i=k->out.length<=k+1->Fr H->I6 out H p ->
 (∀y H',I6 (s.foldl sX out) H' y->Q y H') ->
 bu env Tryz.f224 0 gI [(9,aI i),(8,C),(7,p)] H Q:=by
 intro s;induction s with
 | nil=>rintro k i out p H hs hk rfl ho hF n hQ;obtain rfl:=drop_nil hs hk;refine qR _ _ _ _ _ λg=>?_;have d:=hQ p H n;clear n hQ;simp[ai, *,gN,m.len];all_goals exact d
 | cons t s D=>
  rintro k i out p H hs hk rfl ho hF n hQ;obtain⟨t1,t2⟩:=t;obtain⟨F,O,w,x⟩:=drop_cons hs;have P:=iQa ((k:Int)+1) (by omega);have e:=λq l H'=>D (k+1) ((k:Int)+1) q l H' w (by omega) (by simp);clear D;have G:bL (kL all) k 0 2 true=some (.agg [a8 t1,af t2]):=by simp[kL,x]
  rw[tZ]at hQ;have u:(kL out).length=out.length:=Nz out;have v : ∀c:Option Nat,out.length<=c.getD out.length->ax env 223 [.cC 2 (kL out) c,.agg [a8 t1,af t2]]=some (aB (decide ((⟨t1,t2⟩:jW)∈out))):=λc j=>QV (.inr ⟨c,rfl,by rw[u];exact j⟩) (by omega) t1 t2;obtain⟨r,c,rfl,B,j⟩:=n;refine qR _ _ _ _ _ λg=>?_;have N:out.length+1<=17592186044416:=by omega
  by_cases o:(⟨t1,t2⟩:jW)∈out;·have d : ∀y H',I6 (s.foldl sX out) H' y->Q y H':=λy H' h=>hQ y H' (by rw[sX,if_pos o];exact h);clear hQ;have z:ax env 223 [.cC 2 (kL out) c,.agg [a8 t1,af t2]]=some (aB true):=(by rw[v c (by rcases j with ⟨rfl,h,_⟩ | ⟨rfl,h,_⟩<;>simp[h]),iQj o]);have a:=λH' h=>e out (.bN r 0 out.length c) H' (by omega) h;clear v e o;have n:I6 out H (.bN r 0 out.length c):=⟨r,c,rfl,B,j⟩;simp[ai, *,gN,m.r,m.idx];exact a _ hF n d
  have d : ∀y H',I6 (s.foldl sX (out++[⟨t1,t2⟩])) H' y->Q y H':=λy H' h=>hQ y H' (by rw[sX,if_neg o];exact h);clear hQ;have z:ax env 223 [.cC 2 (kL out) c,.agg [a8 t1,af t2]]=some (aB false):=(by rw[v c (by rcases j with ⟨rfl,h,_⟩ | ⟨rfl,h,_⟩<;>simp[h]),iQk o]);clear v o;have L:(H.get r).isSome=true:=by rw[B];rfl
  have a:=λl H'=>e (out++[⟨t1,t2⟩]) l H' (by simp;omega);clear e;have f : ∀(g:Nat)(H':aa),H'.get ⟨0,37,g,0⟩=some ⟨2,kL out++[.agg [a8 t1,af t2]],true,false⟩->I6 (out++[⟨t1,t2⟩]) H' (.bN ⟨0,37,g,0⟩ 0 (out.length+1) none):=(by intro g H' h;refine⟨_,_,by simp,by rw[h,Te],.inr ⟨rfl,?_,g,rfl⟩⟩;rcases j with ⟨_,h,_⟩ | ⟨_,h,_⟩<;>simp<;>omega);rcases j with ⟨rfl,A,E,rfl⟩ | ⟨rfl,A,E,rfl⟩
  ·have J:1<out.length+1:=(by omega);have b:=f (H.gen 0 37);clear f;have I:(kL out).length=1:=by rw[u,A]
   rw[A]at b;simp[ai, *,gN,m.r,m.idx];exact a _ _ (by simp(maxDischargeDepth:=12) [fN, *]) (b _ (by simp)) d
  have M:ow 2 8 out.length true none (some ⟨2,kL out,true,false⟩) (some [.agg [a8 t1,af t2]]):=(by simp;omega);have b:=f (H.gen 0 37);clear f;simp[ai, *,gN,m.r,m.idx];exact a _ _ (by simp(maxDischargeDepth:=12) [fN, *]) (b _ (by simp)) d
def Lr(l:List aw)(i:bM)(v:jW):(iX l i v).foldl sX [OG i]=pT l i v:=(Ls l i v _).symm
def afL{l:List (aw × AV)}{x0:AV}(u:Sl 17 (bf l) x0)(m : ∀p∈l,ET p)(t : ∀p∈l,eN p.1.s=true)(A:l.length<100000)(a:UInt8)(b:UInt32)(f:UInt8)(d:Int)(n:UInt8)(k:UInt32) :
 ax env 224 [x0,.agg [a8 a,af b,a8 f,aI d],.agg [a8 n,af k]]=some (.cC 2 (kL (pT (opsOf l) (⟨⟨a,b,f⟩,d⟩:bM) ⟨n,k⟩)) (IT (pT (opsOf l) (⟨⟨a,b,f⟩,d⟩:bM) ⟨n,k⟩))):=by
 refine ay rfl (by kernel_rfl) (AB _ _ _ _ _ λg=>?_);have C:=Sm u m t A a b f d n k;have v:=MU (opsOf l) (⟨⟨a,b,f⟩,d⟩:bM) ⟨n,k⟩;rw[show(opsOf l).length=l.length from pI _]at v;have o:=gT 2 (kL (iX (opsOf l) (⟨⟨a,b,f⟩,d⟩:bM) ⟨n,k⟩));rw[<-Lr];have i:=λ(z:AV)(H:aa)(Q:AV->aa->Prop)=>Vs o (by omega) (Q:=Q) (iX (opsOf l) (⟨⟨a,b,f⟩,d⟩:bM) ⟨n,k⟩) 0 0 [OG (⟨⟨a,b,f⟩,d⟩:bM)] z H rfl (by omega) rfl (by simp);clear t m;have q : ∀H:aa,H.get ⟨0,13,0,0⟩=some ⟨2,[.agg [a8 a,af b]],true,false⟩->I6 [OG (⟨⟨a,b,f⟩,d⟩:bM)] H (.bN ⟨0,13,0,0⟩ 0 1 (some 1)):=λH h=>⟨_,_,rfl,h,.inl ⟨rfl,rfl,0,rfl⟩⟩;generalize iX (opsOf l) (⟨⟨a,b,f⟩,d⟩:bM) ⟨n,k⟩=al at *;generalize ep 2 (kL al)=xo at *;have j : ∀y H',I6 (al.foldl sX [OG (⟨⟨a,b,f⟩,d⟩:bM)]) H' y->view H'.get 8 y=some (.cC 2 (kL (al.foldl sX [OG (⟨⟨a,b,f⟩,d⟩:bM)])) (IT (al.foldl sX [OG (⟨⟨a,b,f⟩,d⟩:bM)]))):=by
  intro y H' h;obtain⟨r,c,rfl,x,w⟩:=h;have e:c=IT (al.foldl sX [OG (⟨⟨a,b,f⟩,d⟩:bM)]):=by
   rcases w with ⟨rfl,h,_⟩ | ⟨rfl,h,_⟩
   ·rw[IT,if_pos h]
   rw[IT,if_neg (by omega)]
  rw[<-e];simp[x]
 generalize (al.foldl sX [OG (⟨⟨a,b,f⟩,d⟩:bM)])=fin at i j ⊢;rcases o with ⟨rfl,B⟩ | ⟨c,rfl,w⟩
 ·simp[ai, *,nY,u.r];exact i _ _ _ (by simp(maxDischargeDepth:=12) [fN, *]) (q _ (by simp)) j
 simp[ai, *,nY,u.r];exact i _ _ _ (by simp(maxDischargeDepth:=12) [fN, *]) (q _ (by simp)) j
def ff(s:wm):Nat->Nat->List bM
 | 0,_=>[]
 | n+1,k=>⟨s.f.h,s.f.n+(k:Int)⟩ :: ff s n (k+1)
def WV(i:bM):AV := .agg [a8 i.h.lv,af i.h.cats,a8 i.h.num,aI i.n]
def mB(l:List bM):List AV:=l.map WV
@[simp] def yS(l:List bM):(mB l).length=l.length:=by simp[mB]
def FL(s:wm) : ∀n k,(ff s n k).length=n:=by
 intro n;induction n with
 | zero=>intro k;rfl
 | succ n a=>intro k;simp[ff,a]
def SP(d:UInt8)(c:UInt32)(a_3:UInt8)(b:Int)(f:Int)(M : -4611686018427387904<b)(O:b<4611686018427387904)(N:f<100000){r1:Ref}(w:r1.t=1){Q:AV->aa->Prop} :
 ∀(n k:Nat)(i:Int)(a:List bM)(q:AV)(H:aa),(k:Int)+n=f->i=k->a.length=k->Fr H->H.get r1=some ⟨5,[.agg [a8 d,af c,a8 a_3,aI b,aI f]],false,false⟩->qq [22] 4 (mB a) H q->(a=[]->q=bI) ->
 (∀y H',qq [22] 4 (mB (a++ff (⟨⟨⟨d,c,a_3⟩,b⟩,f⟩:wm) n k)) H' y->(a++ff (⟨⟨⟨d,c,a_3⟩,b⟩,f⟩:wm) n k=[]->y=bI)->Q y H') ->
 bu env Tryz.f196 0 jH [(4,aI i),(1,.ptr r1 0 0),(3,q)] H Q:=by
 intro n;induction n with
 | zero=>
  rintro k i a q H hk rfl ha hF hB hO hN hQ;refine pN _ _ _ _ _ λg=>?_;have B : ¬(k:Int)<f:=by omega
  have l:=hQ q H (by simpa [ff] using hO) (by simpa [ff] using hN);clear hQ hO hN;simp[ai, *,jN];all_goals exact l
 | succ n D=>
  rintro k i a q H hk rfl ha hF hB hO hN hQ;refine pN _ _ _ _ _ λg=>?_;have B:(k:Int)<f:=by omega
  have P:=iQa ((k:Int)+1) (by omega);have I:=iQa (b+(k:Int)) (by omega);have u:=λx H'=>D (k+1) ((k:Int)+1) (a++[⟨⟨d,c,a_3⟩,b+(k:Int)⟩]) x H' (by omega) (by simp) (by simp;omega);clear D;have l : ∀y H',qq [22] 4 (mB ((a++[⟨⟨d,c,a_3⟩,b+(k:Int)⟩])++ff (⟨⟨⟨d,c,a_3⟩,b⟩,f⟩:wm) n (k+1))) H' y->(((a++[⟨⟨d,c,a_3⟩,b+(k:Int)⟩])++ff (⟨⟨⟨d,c,a_3⟩,b⟩,f⟩:wm) n (k+1))=[]->y=bI)->Q y H':=λy H' h J=>hQ y H' (by simpa [ff] using h) (λe=>by simp[ff]at e);clear hQ hN;have o : ∀(g m:Nat)(H':aa),m=k+1->H'.get ⟨0,22,g,0⟩=some ⟨4,mB a++[.agg [a8 d,af c,a8 a_3,aI (b+(k:Int))]],true,false⟩->qq [22] 4 (mB (a++[⟨⟨d,c,a_3⟩,b+(k:Int)⟩])) H' (.bN ⟨0,22,g,0⟩ 0 m none):=(by intro g m H' E h;subst E;exact .inr ⟨22,g,by simp,by simp[ha],by rw[h];simp[mB,WV]⟩);rcases hO with ⟨rfl,F⟩ | ⟨t,gg,C,rfl,z⟩
  ·have A:a=[]:=(by simpa [mB] using F);subst A;have j:=o (H.gen 0 22) 1;clear o;simp[ai, *,jN];exact u _ _ (by simp(maxDischargeDepth:=12) [fN, *]) (by simp(maxDischargeDepth:=12) [fN, *]) (j _ (by simp at ha;omega) (by simp[mB])) (λe=>by simp at e) l
  rw[nc]at C;subst C;have L:(H.get ⟨0,22,gg,0⟩).isSome=true:=by rw[z];rfl
  have G:(H.get r1).isSome=true:=by rw[hB];rfl
  have n1:r1≠⟨0,22,gg,0⟩:=by rintro rfl;simp at w
  have K:ow 4 24 a.length true none (some ⟨4,mB a,true,false⟩) (some [.agg [a8 d,af c,a8 a_3,aI (b+(k:Int))]]):=(by simp;omega);have j:=o (H.gen 0 22) (a.length+1);clear o;have v:a.length+1=k+1:=by rw[ha]
  have p:=λH'=>j H' v;clear ha j v;simp[ai, *,jN];exact u _ _ (by simp(maxDischargeDepth:=12) [fN, *]) (by simp(maxDischargeDepth:=12) [fN, *]) (p _ (by simp)) (λe=>by simp at e) l
def U2(d:UInt8)(b:UInt32)(a_3:UInt8)(c:Int)(a:Int)(k:eN (⟨⟨⟨d,b,a_3⟩,c⟩,a⟩:wm)=true):ax env 196 [.agg [a8 d,af b,a8 a_3,aI c,aI a]]=some (ep 4 (mB (ff (⟨⟨⟨d,b,a_3⟩,c⟩,a⟩:wm) a.toNat 0))):=by
 refine ay rfl (by kernel_rfl) (zt _ _ _ λg=>?_);have l:=gS k;simp only at l;simp[ai, *,sP];refine SP d b a_3 c a (by omega) (by omega) (by omega) (by rfl) a.toNat 0 _ [] _ _ (by omega) rfl rfl (by simp(maxDischargeDepth:=12) [BV, *]) (by simp) (.inl ⟨rfl,rfl⟩) (λ_=>rfl) (λy H' h j=>?_);rw[sZ]at h j;rcases h with ⟨rfl,m⟩ | ⟨t,gg,n,rfl,i⟩
 ·rw[m];simp[ep]
 have f:mB (ff (⟨⟨⟨d,b,a_3⟩,c⟩,a⟩:wm) a.toNat 0)≠[]:=by
  intro e;have:ff (⟨⟨⟨d,b,a_3⟩,c⟩,a⟩:wm) a.toNat 0=[]:=by simpa [mB] using e
  cases j this
 rw[qv 4 f];rw[yS]at *;simp[i]
def NH(l:List aw)(o:aw) : ∀n k,((ff o.s n k).all λi=>decide (LJ o∈pT l i (LJ o)))=p7 l o n k:=by
 intro n;induction n with
 | zero=>intro k;rfl
 | succ n a=>intro k;rw[ff,vm,a,p7]
def Lb{l:List (aw × AV)}{x0:AV}(M:Sl 17 (bf l) x0)(u : ∀p∈l,ET p)(N : ∀p∈l,eN p.1.s=true)(U:l.length<100000)(G:UInt8)(a:UInt8)(a_3:UInt32)(F:UInt8)(E:Int)(O:UInt8)(L:UInt32)(I:UInt8)(K:Int)(v:Int)(z:UInt8)(o:UInt32)(w:UInt8)(q:Int)(j:UInt8)(h:UInt32){x:AV}{f:List bM}{S:AV}(A:Sl 4 (mB f) S)(V:f.length<100000){r3:Ref}{H:aa}
 (Z:H.get r3=some ⟨17,[.agg [a8 G,a8 a,af a_3,a8 F,aI E,a8 O,af L,a8 I,aI K,aI v,a8 z,af o,a8 w,aI q,a8 j,af h,x]],false,false⟩) {Q:AV->aa->Prop} :
 ∀(s:List bM)(k:Nat)(i:Int),f.drop k=s->k<=f.length->i=k ->
 (∀y,y=aB ((s.all λi=>decide ((⟨a,a_3⟩:jW)∈pT (opsOf l) i ⟨a,a_3⟩))&&rG ⟨a,a_3⟩ ⟨j,h⟩)->Q y H) ->
 bu env Tryz.f200 0 gm [(6,aI i),(3,.ptr r3 0 0),(5,S),(0,x0)] H Q:=by
 intro s;induction s with
 | nil=>rintro k i hs hk rfl hQ;obtain rfl:=drop_nil hs hk;refine nK _ _ _ _ _ _ λg=>?_;simp[ai, *,gq,A.len];all_goals exact hQ _ (by simp)
 | cons t s P=>
  rintro k i hs hk rfl hQ;obtain⟨⟨b,e,d⟩,c⟩:=t;obtain⟨T,X,D,J⟩:=drop_cons hs;have e3:=iQa ((k:Int)+1) (by omega);have Y:=afL M u N U b e d c a a_3;have B:=Kc (opsOf l) (⟨⟨b,e,d⟩,c⟩:bM) ⟨a,a_3⟩;rw[show(opsOf l).length=l.length from pI _]at B;have R:=QV (RG (pT (opsOf l) (⟨⟨b,e,d⟩,c⟩:bM) ⟨a,a_3⟩)) (by omega) a a_3;have W:bL (mB f) k 0 4 true=some (.agg [a8 b,af e,a8 d,aI c]):=by simp[mB,WV,J]
  rw[vm]at hQ;have m:=P (k+1) _ D (by omega) rfl;clear P B;refine nK _ _ _ _ _ _ λg=>?_;by_cases C:(⟨a,a_3⟩:jW)∈pT (opsOf l) (⟨⟨b,e,d⟩,c⟩:bM) ⟨a,a_3⟩;·rw[iQj C]at hQ R;rw[m9]at hQ;clear C;generalize pT (opsOf l) (⟨⟨b,e,d⟩,c⟩:bM) ⟨a,a_3⟩=B at *;have n:=m hQ;clear m hQ;simp[ai, *,gq,A.r,A.idx,M.r];exact n
  rw[iQk C]at hQ R;rw[yc,yc]at hQ;clear C m;generalize pT (opsOf l) (⟨⟨b,e,d⟩,c⟩:bM) ⟨a,a_3⟩=B at *;simp[ai, *,gq,A.r,A.idx,M.r];all_goals exact hQ _ rfl
def Sj{l:List (aw × AV)}{x0:AV}(I:Sl 17 (bf l) x0)(y : ∀p∈l,ET p)(C : ∀p∈l,eN p.1.s=true)(M:l.length<100000)(w:UInt8)(t:UInt8)(a_3:UInt32)(v:UInt8)(u:Int)(h:UInt8)(f:UInt32)(b:UInt8)(d:Int)(a:Int)(q:UInt8)(m:UInt32)(o:UInt8)(n:Int)(j:UInt8)(k:UInt32){A:List Int}{x:AV}(z:Sl 1 (rows A) x)(K:eN ⟨⟨⟨h,f,b⟩,d⟩,a⟩=true) :
 ax env 200 [x0,.agg [a8 w,a8 t,af a_3,a8 v,aI u,a8 h,af f,a8 b,aI d,aI a,a8 q,af m,a8 o,aI n,a8 j,af k,x]]=some (aB (la (opsOf l) (⟨w,⟨t,a_3,v⟩,u,⟨⟨⟨h,f,b⟩,d⟩,a⟩,⟨⟨q,m,o⟩,n⟩,⟨j,k⟩,A⟩:aw))):=by
 refine ay rfl (by kernel_rfl) (vD _ _ _ _ λg=>?_);by_cases L:w=3
 ·subst L;have O:=U2 h f b d a K;have F:=gS K;simp only at F;have D:=FL ⟨⟨⟨h,f,b⟩,d⟩,a⟩ a.toNat 0;have B:=gT 4 (mB (ff ⟨⟨⟨h,f,b⟩,d⟩,a⟩ a.toNat 0));have J:la (opsOf l) (⟨3,⟨t,a_3,v⟩,u,⟨⟨⟨h,f,b⟩,d⟩,a⟩,⟨⟨q,m,o⟩,n⟩,⟨j,k⟩,A⟩:aw)=(((ff ⟨⟨⟨h,f,b⟩,d⟩,a⟩ a.toNat 0).all λi=>decide ((⟨t,a_3⟩:jW)∈pT (opsOf l) i ⟨t,a_3⟩))&&rG ⟨t,a_3⟩ ⟨j,k⟩):=by
   rw[NS _ _ rfl,Bool.and_comm];congr 1;exact(NH (opsOf l) ⟨3,⟨t,a_3,v⟩,u,⟨⟨⟨h,f,b⟩,d⟩,a⟩,⟨⟨q,m,o⟩,n⟩,⟨j,k⟩,A⟩ a.toNat 0).symm
  rw[J];have G:(ff ⟨⟨⟨h,f,b⟩,d⟩,a⟩ a.toNat 0).length<100000:=by omega
  clear J D F;generalize ff ⟨⟨⟨h,f,b⟩,d⟩,a⟩ a.toNat 0=ids at *;generalize ep 4 (mB ids)=xo at *;have E:=λ(r3:Ref)(H:aa) hB Q=>Lb I y C M 3 t a_3 v u h f b d a q m o n j k (x:=x) B G (r3:=r3) (H:=H) hB (Q:=Q) ids 0 0 rfl (by omega) rfl;clear y C;rcases B with ⟨rfl,F⟩ | ⟨c,rfl,N⟩
  ·simp[ai, *,iF,I.r,z.r]
  simp[ai, *,iF,I.r,z.r]
 have e:la (opsOf l) (⟨w,⟨t,a_3,v⟩,u,⟨⟨⟨h,f,b⟩,d⟩,a⟩,⟨⟨q,m,o⟩,n⟩,⟨j,k⟩,A⟩:aw)=true:=by unfold la;rw[if_neg L]
 simp[ai, *,iF,z.r]
end
section
attribute [local simp] aJ az au aG aF aX lZ aO aE aH bT bS bg aP an bA gj
def rX(l:List Int):Prop :=∀a∈l, -2147483648<=a/\a<=2147483647
def RQ(i:bM):decide (i=rP)=gB i:=by
 rw[Cy,iQb,xZ]
@[simp] def adB(a:UInt8)(h:UInt32)(n:UInt8)(i:Int):ax env 222 [.agg [a8 a,af h,a8 n,aI i]]=some (aB (gB (⟨⟨a,h,n⟩,i⟩:bM))):=by
 refine ay rfl (by kernel_rfl) (yp _ _ _ λg=>?_);simp[ai, *,rj,gB,ia,cg]
section
variable(k:UInt8)(c:UInt32)(a_3:UInt8)(d:Int)(m:Int)(j:UInt8)(e:UInt32)(b:UInt8)(f:Int){x:AV}{l:List Int}(o:Sl 1 (rows l) x)(q:l.length<1000000)(p:rX l)
include o q
theorem Va(p:rX l):ax env 198 [.agg [a8 k,af c,a8 a_3,aI d,aI m,a8 j,af e,a8 b,aI f,x]]=some (aB (yE (⟨⟨⟨⟨k,c,a_3⟩,d⟩,m⟩,⟨⟨j,e,b⟩,f⟩,l⟩:Rn))):=by
 have u:=JW o (by omega) p;have a:=BI l;unfold yE;simp only[RQ];refine ay rfl (by kernel_rfl) (zl _ _ _ λg=>?_);cases w:eN (⟨⟨⟨k,c,a_3⟩,d⟩,m⟩:wm) with
 | false=>simp[ai, *,fx,o.r]
 | true=>
  by_cases n:(l.length:Int)=m
  ·subst n;cases i:La l with
   | false=>
    have h : ¬BZ l=0:=by rw[a,i];decide
    clear a;simp[ai, *,fx,o.r]
   | true=>
    have h:BZ l=0:=a.2 i;clear a;cases t:gB (⟨⟨j,e,b⟩,f⟩:bM) with
    | true=>simp[ai, *,fx,o.r]
    | false=>cases v:E3 (⟨⟨j,e,b⟩,f⟩:bM)<;>simp[ai, *,fx,o.r]
  clear a;simp[ai, *,fx,o.r]
end
@[simp] def QX(k:UInt8)(c:UInt32)(a_3:UInt8)(d:Int)(m:Int)(j:UInt8)(e:UInt32)(b:UInt8)(f:Int)(n:Int){x:AV}{l:List Int}(o:Sl 1 (rows l) x):ax env 236 [.agg [a8 k,af c,a8 a_3,aI d,aI m,a8 j,af e,a8 b,aI f,x],aI n]=some (.agg [a8 k,af c,a8 a_3,aI (IntKind.i64.wrap (d+n))]):=by
 refine ay rfl (by kernel_rfl) (AD _ _ _ _ λg=>?_);simp[ai, *,tu,o.r]
@[simp] def MA(k:UInt8)(c:UInt32)(a_3:UInt8)(d:Int)(m:Int)(j:UInt8)(e:UInt32)(b:UInt8)(f:Int)(n:Int){x:AV}{l:List Int}(o:Sl 1 (rows l) x)(i:0<=n)(t:n<1000000):ax env 237 [.agg [a8 k,af c,a8 a_3,aI d,aI m,a8 j,af e,a8 b,aI f,x],aI n] =
 some (if n=0 then .agg [a8 j,af e,a8 b,aI f] else .agg [a8 k,af c,a8 a_3,aI (IntKind.i64.wrap (d+(n - 1)))]):=by
 have h:=QX k c a_3 d m j e b f (n - 1) o;have w:=iQa (n - 1) (by omega);refine ay rfl (by kernel_rfl) (wz _ _ _ _ λg=>?_);by_cases a:n=0;·subst a;simp[ai, *,lM,o.r]
 simp[ai, *,lM,o.r]
end
section
attribute [local simp] aJ az au aG aF aX lZ aO aE aH bT bS bg aP an bA gj NC
def Tj(P:Program)(t:TypeId):Bool:=match P.underlying t with
 | some (.interface _)=>false
 | some _=>true
 | none=>false
theorem EM{P:Program}{t:TypeId}(h:Tj P t=true)(x:AV):tG P t (some x)=some (.ifc t x,[]):=by
 unfold Tj at h;unfold tG;cases a:P.underlying t with
 | none=>rw[a]at h;cases h
 | some d=>rw[a]at h;cases d<;>first | rfl | cases h
theorem CE{P:Program}{t c:TypeId}(h:Tj P c=true)(y:AV)(ok:Bool):tV P (some (.ifc t y)) c ok=(if t=c then some ((if ok then .tup [y,.v (.bool true)] else y),[]) else if ok then (eX P c).map λz=>(.tup [z,.v (.bool false)],[]) else none):=by
 unfold Tj at h;unfold tV;cases a:P.underlying c with
 | none=>rw[a]at h;cases h
 | some d=>rw[a]at h;cases d<;>first | rfl | cases h
@[simp] def agx:Tj env.P 25=true/\Tj env.P 42=true:=by repeat' first|kernel_rfl|constructor
attribute [local simp] EM CE
section
variable{k j:AV}{us:List Clear}{qs:List ak}{gr:Int}(a:Sl 3 (de us) k)(b:Sl 5 (cR qs) j)(i:qs.length * 32<=140737488355328)(f:us.length * 12<=140737488355328)
include a b i f
theorem UT(d:Int)(v:UInt8)(c:UInt32)(ok:Bool)(x:0<=d)(o:d<us.length)(y:gr≠0) : ∃n,Sl 5 (cR qs) n /\
 ax env 203 [.agg [k,j,aI gr],.agg [aI d,a8 v,af c,aB ok]]=some (.ifc 25 (.agg [.cC 3 (de (us.set d.toNat ⟨v,c,ok⟩)) none,n,aI (IntKind.i64.wrap (gr - 1))])):=by
 have q:=QZ (gr:=gr) a b i f;obtain⟨w,rfl,_⟩:=a.YY (by intro e;have:=iQg List.length e;simp at this;subst this;simp at o;omega);have l:de us≠[]:=by intro e;have:=iQg List.length e;simp at this;subst this;simp at o;omega
 rw[tM 3 w l]at q;have t:=vY b;generalize sv j=n at *;have z:fP (de us) d.toNat 0 [a8 v,af c,aB ok]=some (de (us.set d.toNat ⟨v,c,ok⟩)):=by
  have m:d.toNat<us.length:=(by omega);simp[Fw,dy m,Clear.enc,Ep]
 have p:(de us).length=us.length:=by simp
 have u : ¬(us.length:Int)<=d:=by omega
 rcases t with ⟨rfl,h⟩ | rfl | ⟨rfl,h⟩
 ·refine⟨bI,.inl ⟨rfl,h⟩,?_⟩;refine ay rfl (by kernel_rfl) (oC _ _ _ _ λg=>?_);simp[ai, *,mZ,b.r,au]
 ·refine⟨.cC 5 (cR qs) none,Sl.mk _ _,?_⟩;refine ay rfl (by kernel_rfl) (oC _ _ _ _ λg=>?_);simp[ai, *,mZ,b.r,au]
 refine⟨.cC 5 [] (some 0),.inr ⟨some 0,by rw[h],by rw[h];simp⟩,?_⟩;refine ay rfl (by kernel_rfl) (oC _ _ _ _ λg=>?_);simp[ai, *,mZ,b.r,au]
theorem Se(d:Int)(v:UInt8)(c:UInt32)(ok:Bool)(h:(us.length:Int)<=d):ax env 203 [.agg [k,j,aI gr],.agg [aI d,a8 v,af c,aB ok]]=some (.ifc 42 (aI 2)):=by
 refine ay rfl (by kernel_rfl) (oC _ _ _ _ λg=>?_);have e:(de us).length=us.length:=by simp
 simp[ai, *,mZ,a.r,b.r]
theorem Sd(d:Int)(v:UInt8)(c:UInt32)(ok:Bool)(l : ¬(us.length:Int)<=d)(h:gr=0):ax env 203 [.agg [k,j,aI gr],.agg [aI d,a8 v,af c,aB ok]]=some (.ifc 42 (aI 9)):=by
 subst h;refine ay rfl (by kernel_rfl) (oC _ _ _ _ λg=>?_);have e:(de us).length=us.length:=by simp
 simp[ai, *,mZ,a.r,b.r]
end
def xQ(us:List Clear)(qs:List ak)(gr:Int)(d:Int)(v:UInt8)(c:UInt32)(ok:Bool):Int:=
 if uj us qs gr&&xK d v c ok then (if (us.length:Int)<=d then 2 else if gr=0 then 9 else 0) else 8
section
variable{k j:AV}{us:List Clear}{qs:List ak}{gr:Int}(a:Sl 3 (de us) k)(b:Sl 5 (cR qs) j)(i:qs.length * 32<=140737488355328)(f:us.length * 12<=140737488355328)
include a b i f
theorem Sz(d:Int)(v:UInt8)(c:UInt32)(ok:Bool)(h:xQ us qs gr d v c ok≠0):ax env 152 [.agg [k,j,aI gr],.agg [aI d,a8 v,af c,aB ok]]=some (.tup [.agg [bI,bI,aI 0],aI (xQ us qs gr d v c ok)]):=by
 have q:=Dr (gr:=gr) a b (by omega) (by omega);have p:=MD d v c ok;refine ay rfl (by kernel_rfl) (AY _ _ _ _ λg=>?_);unfold xQ at h ⊢;cases hm:uj us qs gr with
 | false=>cases n:xK d v c ok<;>simp[ai, *,m0,a.r,b.r,bad]
 | true=>
  cases n:xK d v c ok with| false=>simp[ai, *,m0,a.r,b.r,bad]| true=>
   rw[hm,n]at h;simp only[iQT,if_true]at h ⊢;by_cases l:(us.length:Int)<=d;·have o:=Se (gr:=gr) a b i f d v c ok l;simp[ai, *,m0,a.r,b.r,bad]
   have m:gr=0:=Decidable.by_contra λe=>h (by rw[if_neg l,if_neg e]);have o:=Sd (gr:=gr) a b i f d v c ok l m;subst m;simp[ai, *,m0,a.r,b.r,bad]
theorem ME(d:Int)(v:UInt8)(c:UInt32)(ok:Bool)(h:xQ us qs gr d v c ok=0) : ∃n,Sl 5 (cR qs) n /\
 ax env 152 [.agg [k,j,aI gr],.agg [aI d,a8 v,af c,aB ok]]=some (.tup [.agg [.cC 3 (de (us.set d.toNat ⟨v,c,ok⟩)) none,n,aI (IntKind.i64.wrap (gr - 1))],aI 0]):=by
 have q:=Dr (gr:=gr) a b (by omega) (by omega);have p:=MD d v c ok;unfold xQ at h;split at h
 ·rename_i m;rw[aT]at m;obtain⟨m,o⟩:=m;split at h;·cases h
  rename_i u;split at h;·cases h
  rename_i t;have e:=o;simp only[xK,aT,iQb]at e;obtain⟨n,l,w⟩:=UT (gr:=gr) a b i f d v c ok e.1.1 (by omega) t;refine⟨n,l,?_⟩;clear e h;refine ay rfl (by kernel_rfl) (AY _ _ _ _ λg=>?_);rw[m]at q;rw[o]at p;clear m o;generalize us.set d.toNat ⟨v,c,ok⟩=us' at *;simp[ai, *,m0,a.r,b.r,l.r,bad]
 cases h
end
end
section
attribute [local simp] aJ az au aG aF aX lZ aO aE aH bT bS bg aP an bA gj
attribute [local simp] CB
@[simp] def Yg(a:Int)(v:UInt8)(c:UInt32)(ok:Bool):ax env 156 [.agg [aI a,a8 v,af c,aB ok]]=some (aB (decide (0<=a)&&decide (a<8)&&o6 v c ok)):=by
 refine ay rfl (by kernel_rfl) (zo _ _ _ λg=>?_);simp[ai, *,sL];repeat' ((first | apply ji<;>intro h | apply fY<;>intro h | apply fZ<;>intro h | apply fW<;>intro h | apply fX<;>intro h)<;>(try simp only[iQb,iQc,dI,kT,aT,fp]at h)<;>(try simp[ai, *]))
def C7(z:Nat):List AV->AV
 | []=>bI
 | es => .cC z es none
@[simp] def ac2(z:Nat):C7 z []=bI:=id rfl
def Ma(z:Nat){es:List AV}(h:es≠[]):C7 z es = .cC z es none:=by
 cases es with| nil=>exact absurd rfl h| cons a l=>rfl
def Ha(z:Nat)(es:List AV):Sl z es (C7 z es):=by
 by_cases h:es=[];·subst h;exact .inl ⟨rfl,rfl⟩
 rw[Ma z h];exact .inr ⟨none,rfl,by simp⟩
def nG(us:List Clear)(gr a:Int):Int:=if (us.length:Int)<=a then 2 else if gr=0 then 9 else 0
section
variable{m j:AV}{us:List Clear}{qs:List ak}{gr:Int}(f:Sl 3 (de us) m)(d:Sl 5 (cR qs) j)(i:qs.length<1000)(n:us.length<1000)
include f d i n
theorem J0(a:Int)(v:UInt8)(c:UInt32)(ok:Bool)(h:nG us gr a≠0) :
 ax env 157 [.agg [m,j,aI gr],.agg [aI a,a8 v,af c,aB ok]]=some (.tup [.agg [m,j,aI gr],aI (nG us gr a)]):=by
 unfold nG at *;refine ay rfl (by kernel_rfl) (lJ _ _ _ _ λg=>?_);have b:(de us).length=us.length:=by simp
 by_cases k:(us.length:Int)<=a;·clear h;simp[ai, *,fJ,f.r,d.r]
 by_cases e:gr=0;·subst e;clear h;simp[ai, *,fJ,f.r,d.r]
 rw[if_neg k,if_neg e]at h;exact absurd rfl h
theorem J1(a:Int)(v:UInt8)(c:UInt32)(ok:Bool)(w:0<=a)(h:nG us gr a=0) :
 ax env 157 [.agg [m,j,aI gr],.agg [aI a,a8 v,af c,aB ok]]=some (.tup [.agg [.cC 3 (de (us.set a.toNat ⟨v,c,ok⟩)) none,C7 5 (cR qs),aI (IntKind.i64.wrap (gr - 1))],aI 0]):=by
 have o:=Yf (gr:=gr) f d (by omega) (by omega);unfold nG at h;split at h;·cases h
 rename_i u;split at h;·cases h
 rename_i y;clear h;have x:fP (de us) a.toNat 0 [a8 v,af c,aB ok]=some (de (us.set a.toNat ⟨v,c,ok⟩)):=by
  have l:a.toNat<us.length:=(by omega);simp[Fw,dy l,Clear.enc,Ep]
 have q:(de us).length=us.length:=(by simp);have b:de us≠[]:=by intro e;have:=iQg List.length e;simp at this;subst this;simp at u;omega
 have k:(de (us.set a.toNat ⟨v,c,ok⟩)).length=us.length:=(by simp);rw[pe 3 b]at o;generalize de (us.set a.toNat ⟨v,c,ok⟩)=es at *;have t:a<us.length:=by omega
 by_cases p:qs=[];·subst p;refine ay rfl (by kernel_rfl) (lJ _ _ _ _ λg=>?_);simp[ai, *,fJ,f.r,d.r]
 have n2:cR qs≠[]:=(by simpa using p);rw[pe 5 n2]at o;rw[Ma 5 n2];refine ay rfl (by kernel_rfl) (lJ _ _ _ _ λg=>?_);simp[ai, *,fJ,f.r,d.r]
end
section
variable{m j:AV}{us:List Clear}{qs:List ak}{gr:Int}(f:Sl 3 (de us) m)(d:Sl 5 (cR qs) j)(i:qs.length<1000000)
include f d i
theorem SJ{a:UInt8}{b:UInt32}{r1 r2 r3:Ref}(E:r1≠r3/\r2≠r3){Q:AV->aa->Prop} : ∀(s:List ak)(k:Nat)(H:aa)(z:ak),qs.drop k=s->k<=qs.length->H.get r1=some ⟨3,[.agg [m,j,aI gr]],false,false⟩->H.get r2=some ⟨2,[.agg [a8 a,af b]],false,false⟩ ->
 H.get r3=some ⟨5,[.agg z.enc],false,false⟩->(∀H' y,y=AV.agg (Rb a b (s.find? (wY a b))).enc->Q y H')->bu env Tryz.f143 0 kf [(4,.ptr r3 0 0),(5,aI k),(2,.ptr r1 0 0),(3,.ptr r2 0 0)] H Q:=by
 intro s;induction s with
 | nil=>
  rintro k H z hs hk h1 h2 h3 hQ;obtain rfl:=drop_nil hs hk;have u:=λH'=>hQ H' _ rfl;simp only[List.find?_nil,PS,ak.enc]at u;have l:(cR qs).length=qs.length:=by simp
  simp only[ak.enc]at h3;refine qU _ _ _ _ _ _ λg=>?_;clear hQ;simp[ai, *,m6,d.r,aa.get_put]
 | cons q s B=>
  rintro k H z hs hk h1 h2 h3 hQ;obtain⟨w,D,t,o⟩:=drop_cons hs;have C:=iQa ((k:Int)+1) (by omega);have l:(cR qs).length=qs.length:=by simp
  have p:bL (cR qs) k 0 5 true=some (.agg q.enc):=(by simp[cR,o,ak.enc]);have v:bL (cR qs) k 0 2 true=some (.agg [a8 q.lv,af q.cats]):=(by simp[bL,cR,o,ak.enc]);have c:=λ(h:wY a b q=true) H'=>hQ H' _ (by rw[List.find?_cons_of_pos h]);have x:=λ(h : ¬wY a b q=true)=>B (k+1) H z t (by omega) h1 h2 h3 (λH' y e=>hQ H' y (by rw[List.find?_cons_of_neg h];exact e));rw[show((k+1:Nat):Int)=(k:Int)+1 from by omega]at x;simp only[ak.enc,PR]at c p h3;have A:(k:Int)<qs.length:=by omega
  generalize cR qs=eq at *;clear B hQ hs t D o;refine qU _ _ _ _ _ _ λg=>?_;simp[ai, *,m6,d.r,d.idx,w,l,p,v,ia,cg];refine ji (λh=>?_) (λh=>?_);·simp[d.r,d.idx,w,l,p,aa.get_put,h1,h2,h3];exact c (by simpa [wY] using h) _
  simp[C];exact x (by simpa [wY] using h)
theorem U5(a:UInt8)(b:UInt32):ax env 143 [.agg [m,j,aI gr],.agg [a8 a,af b]]=some (.agg (od qs a b).enc):=by
 refine ay rfl (by kernel_rfl) (AE _ _ _ _ λg=>?_);simp[ai, *,tv,f.r,d.r];refine SJ (gr:=gr) (a:=a) (b:=b) (r1:=⟨0,2,0,0⟩) (r2:=⟨0,3,0,0⟩) (r3:=⟨0,4,0,0⟩) f d i ⟨by simp,by simp⟩ qs 0 _ ⟨0,0,0,0,0⟩ rfl (by omega) ?_ ?_ ?_ (λH' y e=>?_);·simp
 ·simp
 ·simp[ak.enc]
 subst e;simp[od,ak.enc]
end
end
end Go.Proofs.YtmkmimgokagimaaGreat
namespace Go.Proofs.YtmkmimgokagimaaGreat
open Go.Ab Go.ChangeShapes Go.WideShapes Go.RowKit
def Vt:OI env.P 62 (λp:cN × AV=>Sl 1 (rows p.1.op.l) p.2/\rX p.1.op.l) ajh:=by
 intro n xs h;have h:=mN (P:=env.P) NV h;obtain⟨m,x1,r1,rfl,b,v,r2,rfl,i,w,r3,rfl,e,y,r4,rfl,f,x,r5,rfl,a,rfl⟩:=h;obtain⟨k,_,rfl⟩:=Q5 (P:=env.P) (t:=5) (by simp) _ _ b;obtain⟨u,_,rfl⟩:=tU (P:=env.P) (t:=3) (by simp) _ _ i;obtain⟨q,j,rfl⟩:=MO _ _ e;obtain⟨c,_,rfl⟩:=tU (P:=env.P) (t:=42) (by simp) _ _ f;have d:=mN (P:=env.P) NW a;obtain⟨m,o,s1,rfl,i1,A,s2,rfl,i2,rfl⟩:=d;obtain⟨g,_,rfl⟩:=tU (P:=env.P) (t:=3) (by simp) _ _ i1;obtain⟨z,_,rfl⟩:=Yt _ _ i2;exact⟨(⟨k,u,q.1,c,g,z.1,z.2.1,z.2.2⟩,q.2),j,rfl⟩
def UN{n:Nat}{x:AV}(h:TO env.P n 26 x) : ∃(l:List (cN × AV)),(∀p∈l,Sl 1 (rows p.1.op.l) p.2/\rX p.1.op.l)/\Sl 24 (bW l) x:=by
 obtain⟨l,z,a,e,s⟩:=Dm (P:=env.P) UA Uw X0 Vt (h.cell (by simp));cases e;exact⟨l,a,s⟩
end Go.Proofs.YtmkmimgokagimaaGreat
namespace Go.Proofs.YtmkmimgokagimaaGreat
open Go.Ab
section
attribute [local simp] aJ az au aG aF aX lZ aO aE aH bT bS bg aP an bA gj
structure BT where
 o:Bool
 u:Int
 s:Int
structure Az where
 opens:Int
 ops:Int
 cells:Int
def BT.av(s:BT):AV := .agg [aB s.o,aI s.u,aI s.s]
def Az.av(u:Az):AV := .agg [a8 0,af 0,aI u.opens,aI u.ops,aI u.cells]
def uf:Option AV->BT
 | some (.agg [.v (.bool o),.v (.int _ u),.v (.int _ s)])=>⟨o,u,s⟩
 | _=>⟨false,0,0⟩
def wA:Option AV->Az
 | some (.agg [_,_,.v (.int _ x),.v (.int _ y),.v (.int _ z)])=>⟨x,y,z⟩
 | _=>⟨0,0,0⟩
@[simp] def Dp(s:BT):uf (some s.av)=s:=by cases s;rfl
@[simp] def KV(u:Az):wA (some u.av)=u:=by cases u;rfl
def UP(l:List (xn × AV)):Prop :=∀p∈l,∃s:BT,p.2=s.av
def Ut(l:List (jW × AV)):Prop :=∀p∈l,∃u:Az,p.2=u.av
def look_ok{K:Type}[DecidableEq K]{P:AV->Prop} : ∀ {l:List (K × AV)} (h : ∀p∈l,P p.2) (k:K),cm k l=none \/∃x,cm k l=some x/\P x
 | [],_,_ => .inl rfl
 | p :: l,h,k=>by
  unfold cm;split;·exact .inr ⟨p.2,rfl,h p gy⟩
  exact look_ok (λq c=>h q (fO _ c)) k
def Dn{K:Type}[DecidableEq K]{P:AV->Prop}{k:K}{x:AV}(c:P x) : ∀ {l:List (K × AV)} (h : ∀p∈l,P p.2),∀p∈jQ k x l,P p.2
 | [],_=>by intro p hp;simp[jQ]at hp;rw[hp];exact c
 | q :: l,h=>by
  intro p hp;unfold jQ at hp;split at hp
  ·rcases eD.1 hp with rfl | hp
   ·exact c
   exact h p (fO _ hp)
  rcases eD.1 hp with rfl | hp
  ·exact h _ gy
  exact Dn c (λp hp=>h p (fO _ hp)) p hp
def UO{l:List (xn × AV)}(h:UP l)(k:xn):(cm k l).getD (.agg [aB false,aI 0,aI 0])=(uf (cm k l)).av:=by
 rcases look_ok (P:=λx =>∃s:BT,x=s.av) h k with e | ⟨x,e,s,rfl⟩
 ·rw[e];rfl
 rw[e,Dp];rfl
def Us{l:List (jW × AV)}(h:Ut l)(k:jW):(cm k l).getD (.agg [a8 0,af 0,aI 0,aI 0,aI 0])=(wA (cm k l)).av:=by
 rcases look_ok (P:=λx =>∃u:Az,x=u.av) h k with e | ⟨x,e,u,rfl⟩
 ·rw[e];rfl
 rw[e,KV];rfl
def nw(z:Nat)(es:List AV)(H:aa)(x y:AV):Prop:=(x=y/\Sl z es y) \/∃r c,x = .bN r 0 es.length c/\H.get r=some ⟨z,es,true,true⟩/\y = .cC z es c/\es.length<=c.getD es.length
def nw.s{z:Nat}{es:List AV}{H:aa}{x y:AV}(h:nw z es H x y):lY z es H x y:=by
 rcases h with h | ⟨r,c,d,k,e,g⟩
 ·exact .inl h
 exact .inr ⟨r,c,true,d,k,e,g⟩
def nw.refs{z:Nat}{es:List AV}{H:aa}{x y:AV}(h:nw z es H x y)(n:Nat):kO H.get (ah H.get (n+1) x)=true:=by
 rcases h with ⟨rfl,h⟩ | ⟨r,c,rfl,d,rfl,e⟩
 ·rw[h.refs];rfl
 simp[d]
def nw.of{z:Nat}{es:List AV}{x:AV}(h:Sl z es x)(H:aa):nw z es H x x := .inl ⟨rfl,h⟩
structure gR where
 us:List Clear
 gr:Int
 ses:List (xn × AV)
 used:List (jW × AV)
 cD:List (aw × AV)
structure uP (b:gR):Prop where
 ses:UP b.ses
 used:Ut b.used
 cD : ∀p∈b.cD,ET p/\p.1.l.length<1000000
 many:b.cD.length<10000
 few:b.us.length<1000000
structure y9 (ops:List (aw × AV)) (H:aa) (x:AV) (hs:List Ref):Prop where
 row:iJ 17 (mO ops) H ⟨x,hs⟩
 out:VL ops
def y9.sl{ops:List (aw × AV)}{H:aa}{x:AV}{c:List Ref}(h:y9 ops H x c):Sl 17 (bf ops) (ep 17 (bf ops)):=gT _ _
def y9.cells{ops:List (aw × AV)}{H:aa}{x:AV}{c:List Ref}(h:y9 ops H x c):x.cells=[x]/\x.one=true:=h.row.one
def y9.aX{ops:List (aw × AV)}{H H':aa}{x:AV}{c:List Ref}(h:y9 ops H x c)(d : ∀q∈c,∀b,H.get q=some b->H'.get q=some b):y9 ops H' x c:=⟨h.row.aX d,h.out⟩
def y9.cons{ops:List (aw × AV)}{H:aa}{x:AV}{g:List Ref}(h:y9 ops H x g)(f:Fr H)(d t:Nat)(b:Option aQ):y9 ops ((⟨d,t,H.gen d t,0⟩,b) :: H) x g:=
 h.aX λq _ c e=>by rw[aa.fh,if_neg (nB f (by rw[e];rfl) _ _ _)];exact e
def y9.r{ops:List (aw × AV)}{H:aa}{x:AV}{c:List Ref}(h:y9 ops H x c):og x=some ops.length/\(∀n,view H.get (n+3) x=some (ep 17 (bf ops)))/\(∀n,ah H.get (n+3) x=c)/\x.cells=[x]/\x.one=true:=by
 refine⟨by rw[h.row.len,EJ],λn=>?_,λn=>(h.row.see n).2,h.row.one⟩;rw[(h.row.see n).1,HN h.out]
structure Fi (H:aa) (rb:Ref) (us0:List Clear) (qs:List ak) (gr0:Int) (b:gR):Prop where
 box : ∃xu xq yu yq wu wq xr rs ru xh vh,H.get rb=some ⟨10,[.agg [xu,xq,aI gr0,yu,yq,aI b.gr,xr,.mp rs,.mp ru,xh]],false,false⟩/\Sl 3 (de us0) xu/\Sl 5 (cR qs) xq/\nw 3 (de b.us) H yu wu/\nw 5 (cR qs) H yq wq /\
  H.get rs=some (ba (cJ Bj b.ses))/\H.get ru=some (ba (cJ zQ b.used))/\y9 b.cD H xh vh/\xr.cells=[xr]/\xr.one=true
def nw.grow{z:Nat}{es:List AV}{H H':aa}{x y:AV}(h:nw z es H x y)(g:cf H H'):nw z es H' x y:=by
 rcases h with h | ⟨r,c,rfl,e,rfl,d⟩
 ·exact .inl h
 exact .inr ⟨r,c,rfl,g.old _ _ e,rfl,d⟩
def lY.grow{z:Nat}{es:List AV}{H H':aa}{x y:AV}(h:lY z es H x y)(g:cf H H'):lY z es H' x y:=by
 rcases h with h | ⟨r,c,fz,rfl,e,rfl,d⟩
 ·exact .inl h
 exact .inr ⟨r,c,fz,rfl,g.old _ _ e,rfl,d⟩
def Fi.grow{H H':aa}{rb:Ref}{us0:List Clear}{qs:List ak}{gr0:Int}{b:gR}(h:Fi H rb us0 qs gr0 b)(g:cf H H'):Fi H' rb us0 qs gr0 b:=by
 obtain⟨o,y,B,n,k,E,v,rs,ru,u,e,w,C,z,A,t,x,D,p,l⟩:=h.box;exact⟨o,y,B,n,k,E,v,rs,ru,u,e,g.old _ _ w,C,z,nw.grow A g,nw.grow t g,g.old _ _ x,g.old _ _ D,p.aX λq _ c d=>g.old q c d,l⟩
def K1{g:cF}{rs:Ref}{l:List (xn × AV)}(i:UP l)(c:g rs=some (ba (cJ Bj l)))(h:xn):fe env.P g 126 (some (.mp rs)) (some (.agg [a8 h.lv,af h.cats,a8 h.num])) false=some ((uf (cm h l)).av,[]):=by
 have e:=A9 Lw Iy (t:=126) (et:=73) (by kernel_rfl) (z := .agg [aB false,aI 0,aI 0]) (by kernel_rfl) c h false;rw[UO i]at e;exact e
def Hm{g:cF}{ru:Ref}{l:List (jW × AV)}(i:Ut l)(c:g ru=some (ba (cJ zQ l)))(v:jW):fe env.P g 127 (some (.mp ru)) (some (.agg [a8 v.lv,af v.cats])) false=some ((wA (cm v l)).av,[]):=by
 have e:=A9 Lv Iq (t:=127) (et:=81) (by kernel_rfl) (z := .agg [a8 0,af 0,aI 0,aI 0,aI 0]) (by kernel_rfl) c v false;rw[Us i]at e;exact e
section
variable(dep:Nat){H:aa}(f:Fr H){rb:Ref}{us0:List Clear}{qs:List ak}{gr0:Int}{b:gR}(i:Fi H rb us0 qs gr0 b)(a:uP b)(j:us0.length<1000000)(m:qs.length<1000000)
include f i a j m
theorem Rk(e:UInt8)(d:UInt32) : ∃H',cb env dep (.fn 146) [.ptr rb 0 0,.agg [a8 e,af d]] H =
 some (.tup [aB (decide ((wA (cm ⟨e,d⟩ b.used)).opens<(rY us0 qs gr0 e d).opens)),aB (decide ((wA (cm ⟨e,d⟩ b.used)).ops<(rY us0 qs gr0 e d).ops))],H')/\cf H H':=by
 refine fT (fn:=Tryz.f146) (c:=rH) (by kernel_rfl) (by kernel_rfl) (by kernel_rfl) (by kernel_rfl) (by kernel_rfl) ?_;refine rD _ _ _ _ _ λg=>?_;obtain⟨L,U,V,K,D,N,R,rs,ru,Q,A,x,v,o,p,n,T,z,l,J⟩:=i.box;have S:=QY (gr:=gr0) v o (by omega) (by omega) e d;have C:(H.get rb).isSome=true:=by rw[x];rfl
 have P:(H.get ru).isSome=true:=by rw[z];rfl
 have y:=λ(H':aa)(h:H'.get ru=some (ba (cJ zQ b.used)))=>Hm (g:=H'.get) a.used h ⟨e,d⟩;have O:=p.s.cells;have B:=n.s.cells;have G:=l.cells;generalize rY us0 qs gr0 e d=q at *;generalize wA (cm ⟨e,d⟩ b.used)=u at *;obtain⟨q1,I,M,F,E⟩:=q;obtain⟨Y,W,X⟩:=u;have k : ∀b1 b2 b3:aQ,cf H ((⟨dep+1,8,H.gen (dep+1) 8,0⟩,some b3) :: (⟨dep+1,6,H.gen (dep+1) 6,0⟩,some b2) :: (⟨dep+1,3,H.gen (dep+1) 3,0⟩,some b1) :: H):=λb1 b2 b3=>⟨by simp(maxDischargeDepth:=12) [fN, *],λq c t=>by
  have w:(H.get q).isSome=true:=by rw[t];rfl
  simp[bE f w,t]⟩
 clear i p n l a;simp[ai, *,lH,v.r,o.r,ak.enc,Az.av]
def Be(b:gR)(qs:List ak)(c:Int)(d:UInt8)(e:UInt32):Bool:=decide (Ap b.us qs b.gr d=0)&&pD b.us c d e
theorem Wf(d:Int)(e:UInt8)(h:UInt32) : ∃H',cb env dep (.fn 147) [.ptr rb 0 0,aI d,.agg [a8 e,af h]] H=some (aB (Be b qs d e h),H')/\cf H H':=by
 refine fT (fn:=Tryz.f147) (c:=sx) (by kernel_rfl) (by kernel_rfl) (by kernel_rfl) (by kernel_rfl) (by kernel_rfl) ?_;refine rT _ _ _ _ _ _ λg=>?_;obtain⟨E,L,M,D,A,O,J,rs,ru,I,x,v,q,p,l,k,K,N,o,C⟩:=i.box;have t:=abc (gr:=b.gr) l.s.sl k.s.sl (by omega) (by have:=a.few;omega) d e h;have z:(H.get rb).isSome=true:=by rw[v];rfl
 have G:=λb1=>(l.s.cons f (dep+1) 5 (some b1)).r;have y:=λb1=>(k.s.cons f (dep+1) 5 (some b1)).r;have F:=l.s.cells;have w:=k.s.cells;have B:=o.cells;have u:=cf.refl f;have n : ∀b1:aQ,cf H ((⟨dep+1,5,H.gen (dep+1) 5,0⟩,some b1) :: H):=λb1=>cf.cons f _ _ _;unfold Be;clear i l k o a;generalize pD b.us d e h=ob at *;by_cases hp:Ap b.us qs b.gr e=0;·rw[hp]at t;cases ob<;>simp[ai, *,iI,q.r,p.r,hp]
 cases ob<;>simp[ai, *,iI,q.r,p.r,hp]
def oB(us0:List Clear)(qs:List ak)(gr0:Int)(b:gR)(o:aw):Int:=
 if qa b.cD o≠0 then qa b.cD o else if o.kind=1/\(rY us0 qs gr0 o.h.lv o.h.cats).cells<IntKind.i64.wrap ((wA (cm ⟨o.h.lv,o.h.cats⟩ b.used)).cells+o.s.many) then 9 else 0
theorem Hb(w:UInt8)(d:UInt8)(a_3:UInt32)(z:UInt8)(y:Int)(D:UInt8)(C:UInt32)(A:UInt8)(B:Int)(k:Int)(v:UInt8)(n:UInt32)(t:UInt8)(o:Int)(p:UInt8)(l:UInt32){x:AV}{J:List Int}(G:Sl 1 (rows J) x)(L:J.length<1000000) : ∃H',cb env dep (.fn 72) [.ptr rb 0 0,.agg [a8 w,a8 d,af a_3,a8 z,aI y,a8 D,af C,a8 A,aI B,aI k,a8 v,af n,a8 t,aI o,a8 p,af l,x]] H=some (aI (oB us0 qs gr0 b (⟨w,⟨d,a_3,z⟩,y,⟨⟨⟨D,C,A⟩,B⟩,k⟩,⟨⟨v,n,t⟩,o⟩,⟨p,l⟩,J⟩:aw)),H')/\cf H H':=by
 refine fT (fn:=Tryz.f72) (c:=pF) (by kernel_rfl) (by kernel_rfl) (by kernel_rfl) (by kernel_rfl) (by kernel_rfl) ?_;refine pC _ _ _ _ _ λg=>?_;obtain⟨xu,xq,yu,yq,wu,wq,xr,rs,ru,xh,vh,R,F,E,O,N,h6,W,I,h9⟩:=i.box;have hQ:=QY (gr:=gr0) F E (by omega) (by omega) d a_3;have hD:=SA I.sl a.cD a.many w d a_3 z y D C A B k v n t o p l G L;have Z:(H.get rb).isSome=true:=by rw[R];rfl
 have l7:(H.get ru).isSome=true:=by rw[W];rfl
 have V:=λ(H':aa)(h:H'.get ru=some (ba (cJ zQ b.used)))=>Hm (g:=H'.get) a.used h ⟨d,a_3⟩;have c4:=O.s.cells;have c5:=N.s.cells;have c8:=λb1=>(I.cons f (dep+1) 3 (some b1)).r;have d8:=I.cells;have T:=cf.refl f;have K : ∀b1:aQ,cf H ((⟨dep+1,3,H.gen (dep+1) 3,0⟩,some b1) :: H):=λb1=>cf.cons f _ _ _;have M : ∀b1 b2:aQ,cf H ((⟨dep+1,6,H.gen (dep+1) 6,0⟩,some b2) :: (⟨dep+1,3,H.gen (dep+1) 3,0⟩,some b1) :: H):=λb1 b2=>⟨by simp(maxDischargeDepth:=12) [fN, *],λq c P=>by
  have U:(H.get q).isSome=true:=by rw[P];rfl
  simp[bE f U,P]⟩
 unfold oB;simp only;generalize rY us0 qs gr0 d a_3=q at *;generalize wA (cm ⟨d,a_3⟩ b.used)=u at *;generalize qa b.cD (⟨w,⟨d,a_3,z⟩,y,⟨⟨⟨D,C,A⟩,B⟩,k⟩,⟨⟨v,n,t⟩,o⟩,⟨p,l⟩,J⟩:aw)=e at *;obtain⟨q1,q2,q3,q4,S⟩:=q;obtain⟨u1,u2,X⟩:=u;clear i O N I a;by_cases he:e=0
 ·by_cases Q:w=1
  ·subst Q;by_cases Y:S<IntKind.i64.wrap (X+k);·simp[ai, *,cM,F.r,E.r,G.r,ak.enc,Az.av]
   simp[ai, *,cM,F.r,E.r,G.r,ak.enc,Az.av]
  simp[ai, *,cM,F.r,E.r,G.r,ak.enc,Az.av]
 simp[ai, *,cM,F.r,E.r,G.r,ak.enc,Az.av]
end
def Co(g:cF)(a b:List Ref):kO g (a++b)=(kO g a&&kO g b):=by
 unfold kO;rw[OJ]
def Ki{f:FuncId}(n:(env.mode f == 2)=true){dep:Nat}{H:aa}{args:List AV}{y:AV}(h : ∃H',cb env dep (.fn f) args H=some (y,H')/\cf H H')(c:flat depth y=true)(r:Ref) :
 nO env true (ax env) (cb env dep) H r (some (.fn (.func f) [] [])) args=some (y,H):=by
 obtain⟨H',k,o⟩:=h;have a:env.mode f=2:=by simpa using n
 have e:([]++args++[]:List AV)=args:=by simp
 have g:env.sm.f H H'=true:=NM o.old;simp only[nO,kW,nH,if_pos a,e,k,mE,Gb,AS,iQq];show qQ true env.sm H (some (y,H'))=_;simp only[qQ,c,g,Kv,AI,if_true]
@[simp] def afT(y:AV):lL AV.undef y=true:=id rfl
def oc(b:gR)(o:aw):BT:=uf (cm o.h b.ses)
def pS(b:gR)(o:aw):Az:=wA (cm ⟨o.h.lv,o.h.cats⟩ b.used)
def FN(us0:List Clear)(qs:List ak)(gr0:Int)(b:gR)(r:cN):Bool:=
 !(oc b r.op).o&&(Be b qs r.user r.op.h.lv r.op.h.cats&&decide ((pS b r.op).opens<(rY us0 qs gr0 r.op.h.lv r.op.h.cats).opens))
def DV(us0:List Clear)(qs:List ak)(gr0:Int)(b:gR)(r:cN):Bool:=
 (oc b r.op).o&&(Be b qs (oc b r.op).u r.op.h.lv r.op.h.cats&&(decide (r.op.serial=IntKind.i64.wrap ((oc b r.op).s+1))&&(decide ((pS b r.op).ops<(rY us0 qs gr0 r.op.h.lv r.op.h.cats).ops)&&decide (r.code=oB us0 qs gr0 b r.op))))
def FM(qs:List ak)(b:gR)(r:cN):Bool:=decide (xQ b.us qs b.gr r.gu r.gv r.gc r.gok=0)
section
variable(dep:Nat){H:aa}(m:Fr H){rb:Ref}{us0:List Clear}{qs:List ak}{gr0:Int}{b:gR}(l:Fi H rb us0 qs gr0 b)(d:uP b)(i:us0.length<1000000)(j:qs.length<1000000)
include m l d i j
theorem ab4(k:UInt8)(u:Int)(B:UInt8)(a:UInt8)(a_3:UInt32)(h:UInt8)(A:Int)(G:UInt8)(F:UInt32)(C:UInt8)(E:Int)(q:Int)(y:UInt8)(f:UInt32)(t:UInt8)(n:Int)(p:UInt8)(e:UInt32)(c L:Int)(v:UInt8)(w:UInt32)(o:Bool){x:AV}{U:List Int}(O:Sl 1 (rows U) x) :
 ∃H',cb env dep (.fn 145) [.ptr rb 0 0,.agg [a8 k,aI u,a8 B,a8 a,af a_3,a8 h,aI A,a8 G,af F,a8 C,aI E,aI q,a8 y,af f,a8 t,aI n,a8 p,af e,x,aI c,aI L,a8 v,af w,aB o]] H=some (aB (FN us0 qs gr0 b ⟨k,u,(⟨B,⟨a,a_3,h⟩,A,⟨⟨⟨G,F,C⟩,E⟩,q⟩,⟨⟨y,f,t⟩,n⟩,⟨p,e⟩,U⟩:aw),c,L,v,w,o⟩),H')/\cf H H':=by
 refine fT (fn:=Tryz.f145) (c:=Ea) (by kernel_rfl) (by kernel_rfl) (by kernel_rfl) (by kernel_rfl) (by kernel_rfl) ?_;refine Dd _ _ _ _ _ λg=>?_;have D : ∀b1:aQ,cf H ((⟨dep+1,3,H.gen (dep+1) 3,0⟩,some b1) :: H):=λb1=>cf.cons m _ _ _;have Y:=Rk (dep+1) (D ⟨24,[.agg [a8 k,aI u,a8 B,a8 a,af a_3,a8 h,aI A,a8 G,af F,a8 C,aI E,aI q,a8 y,af f,a8 t,aI n,a8 p,af e,x,aI c,aI L,a8 v,af w,aB o]],false,false⟩).fr (l.grow (D _)) d i j a a_3;simp[ai, *,xg,O.r];refine nE (by kernel_rfl) Y λH2 Q=>?_;have z:=(D _).trans Q;have K:=Q.old ⟨dep+1,3,H.gen (dep+1) 3,0⟩ _ (by simp;rfl);have I:=l.grow z;obtain⟨xu,xq,yu,yq,wu,wq,xr,rs,ru,xh,vh,R,T,S,h4,h5,h6,h7,Z,h9⟩:=I.box;have J:=K1 (g:=H2.get) d.ses h6 ⟨a,a_3,h⟩;have X:=Wf (dep+1) z.fr I d i j u a a_3;have W:=h4.s.cells;have V:=h5.s.cells;have P:=Z.cells;unfold FN oc pS;simp only;generalize Be b qs u a a_3=mn at *;generalize decide ((wA (cm ⟨a,a_3⟩ b.used)).opens<(rY us0 qs gr0 a a_3).opens)=lo at *;generalize uf (cm ⟨a,a_3,h⟩ b.ses)=ss at *;obtain⟨s1,s2,s3⟩:=ss;cases s1 with
 | true=>simp[K,R,J,O.r,W,V,P,T.r,S.r,BT.av,z]
 | false=>simp[K,R,J,O.r,W,V,P,T.r,S.r,BT.av];refine nE (by kernel_rfl) X λH3 N=>?_;have M:=z.trans N;cases mn<;>simp[M]
theorem ab2(k:UInt8)(u:Int)(D:UInt8)(a:UInt8)(a_3:UInt32)(A:UInt8)(C:Int)(I:UInt8)(G:UInt32)(E:UInt8)(F:Int)(t:Int)(z:UInt8)(f:UInt32)(y:UInt8)(n:Int)(p:UInt8)(e:UInt32)(c U:Int)(v:UInt8)(w:UInt32)(o:Bool){x:AV}{Q:List Int}(L:Sl 1 (rows Q) x)(R:Q.length<1000000) :
 ∃H',cb env dep (.fn 149) [.ptr rb 0 0,.agg [a8 k,aI u,a8 D,a8 a,af a_3,a8 A,aI C,a8 I,af G,a8 E,aI F,aI t,a8 z,af f,a8 y,aI n,a8 p,af e,x,aI c,aI U,a8 v,af w,aB o]] H=some (aB (DV us0 qs gr0 b ⟨k,u,(⟨D,⟨a,a_3,A⟩,C,⟨⟨⟨I,G,E⟩,F⟩,t⟩,⟨⟨z,f,y⟩,n⟩,⟨p,e⟩,Q⟩:aw),c,U,v,w,o⟩),H')/\cf H H':=by
 refine fT (fn:=Tryz.f149) (c:=D8) (by kernel_rfl) (by kernel_rfl) (by kernel_rfl) (by kernel_rfl) (by kernel_rfl) ?_;refine Db _ _ _ _ _ λg=>?_;have J : ∀b1 b2:aQ,cf H ((⟨dep+1,5,H.gen (dep+1) 5,0⟩,some b2) :: (⟨dep+1,3,H.gen (dep+1) 3,0⟩,some b1) :: H):=λb1 b2=>⟨by simp(maxDischargeDepth:=12) [fN, *],λq c Z=>by
  have lq:(H.get q).isSome=true:=by rw[Z];rfl
  simp[bE m lq,Z]⟩
 obtain⟨xu,xq,yu,yq,wu,wq,xr,rs,ru,xh,vh,V,h2,h3,Y,T,W,h7,S,h9⟩:=l.box;have l1:(H.get rb).isSome=true:=by rw[V];rfl
 have l6:(H.get rs).isSome=true:=by rw[W];rfl
 have c4:=Y.s.cells;have c5:=T.s.cells;have c8:=S.cells;have N:=λ(H':aa)(h:H'.get rs=some (ba (cJ Bj b.ses)))=>K1 (g:=H'.get) d.ses h ⟨a,a_3,A⟩;unfold DV oc pS;simp only;generalize hss:uf (cm ⟨a,a_3,A⟩ b.ses)=ss at *;obtain⟨s1,s2,s3⟩:=ss;simp[ai, *,xe,L.r,V,W,N,BT.av];refine nE (by kernel_rfl) (Rk (dep+1) (J _ _).fr (l.grow (J _ _)) d i j _ _) λH4 M=>?_;have B:=(J _ _).trans M;have b3:=M.old ⟨dep+1,3,H.gen (dep+1) 3,0⟩ _ (by simp;rfl);have O:=M.old ⟨dep+1,5,H.gen (dep+1) 5,0⟩ _ (by simp;rfl);have K:=l.grow B;have P:=Ki (by kernel_rfl) (Wf (dep+1) M.fr K d i j s2 a a_3) rfl;have hV:=Ki (by kernel_rfl) (Hb (dep+1) M.fr K d i j D a a_3 A C I G E F t z f y n p e L R) rfl;generalize Be b qs s2 a a_3=mn at *;generalize decide ((wA (cm ⟨a,a_3⟩ b.used)).opens<(rY us0 qs gr0 a a_3).opens)=lo at *;generalize decide ((wA (cm ⟨a,a_3⟩ b.used)).ops<(rY us0 qs gr0 a a_3).ops)=lp at *;generalize oB us0 qs gr0 b (⟨D,⟨a,a_3,A⟩,C,⟨⟨⟨I,G,E⟩,F⟩,t⟩,⟨⟨z,f,y⟩,n⟩,⟨p,e⟩,Q⟩:aw)=ve at *;have hH4:=M.fr;clear l K Y T S d N;cases s1 with
 | false=>simp[b3,O,L.r,iB,B]
 | true=>
 cases mn with| false=>simp[b3,O,L.r,iB,P,B]| true=>
 by_cases X:C=IntKind.i64.wrap (s3+1)
 ·subst X;cases lp with
  | false=>simp[b3,O,L.r,iB,P,B]
  | true=>simp[b3,O,L.r,iB,P,hV,B]
 simp[b3,O,L.r,iB,P,X,B]
theorem ab0(k:UInt8)(u:Int)(B:UInt8)(y:UInt8)(a_3:UInt32)(A:UInt8)(z:Int)(F:UInt8)(E:UInt32)(C:UInt8)(D:Int)(n:Int)(t:UInt8)(e:UInt32)(p:UInt8)(f:Int)(h:UInt8)(a:UInt32)(c I:Int)(v:UInt8)(w:UInt32)(o:Bool){x:AV}{Q:List Int}(S:Sl 1 (rows Q) x) :
 ∃H',cb env dep (.fn 151) [.ptr rb 0 0,.agg [a8 k,aI u,a8 B,a8 y,af a_3,a8 A,aI z,a8 F,af E,a8 C,aI D,aI n,a8 t,af e,a8 p,aI f,a8 h,af a,x,aI c,aI I,a8 v,af w,aB o]] H=some (aB (FM qs b ⟨k,u,(⟨B,⟨y,a_3,A⟩,z,⟨⟨⟨F,E,C⟩,D⟩,n⟩,⟨⟨t,e,p⟩,f⟩,⟨h,a⟩,Q⟩:aw),c,I,v,w,o⟩),H')/\cf H H':=by
 refine fT (fn:=Tryz.f151) (c:=D7) (by kernel_rfl) (by kernel_rfl) (by kernel_rfl) (by kernel_rfl) (by kernel_rfl) ?_;refine Da _ _ _ _ _ λg=>?_;obtain⟨xu,xq,yu,yq,wu,wq,xr,rs,ru,xh,vh,V,P,O,J,G,h6,h7,K,h9⟩:=l.box;have Y:(H.get rb).isSome=true:=by rw[V];rfl
 have c4:=λb1=>(J.s.cons m (dep+1) 3 (some b1)).r;have c5:=λb1=>(G.s.cons m (dep+1) 3 (some b1)).r;have d4:=J.s.cells;have d5:=G.s.cells;have d8:=K.cells;have M : ∀b1 b2:aQ,cf H ((⟨dep+1,5,H.gen (dep+1) 5,0⟩,some b2) :: (⟨dep+1,3,H.gen (dep+1) 3,0⟩,some b1) :: H):=λb1 b2=>⟨by simp(maxDischargeDepth:=12) [fN, *],λq c T=>by
  have X:(H.get q).isSome=true:=by rw[T];rfl
  simp[bE m X,T]⟩
 unfold FM;simp only;have N:=d.few;by_cases R:xQ b.us qs b.gr I v w o=0;·obtain⟨yy,L,U⟩:=ME (gr:=b.gr) J.s.sl G.s.sl (by omega) (by omega) I v w o R;have z4:=(nw.grow J (cf.cons m (dep+1) 3 ⟨24,[.agg [a8 k,aI u,a8 B,a8 y,af a_3,a8 A,aI z,a8 F,af E,a8 C,aI D,aI n,a8 t,af e,a8 p,aI f,a8 h,af a,x,aI c,aI I,a8 v,af w,aB o]],false,false⟩)).refs 6;have Z:=(nw.grow G (cf.cons m (dep+1) 3 ⟨24,[.agg [a8 k,aI u,a8 B,a8 y,af a_3,a8 A,aI z,a8 F,af E,a8 C,aI D,aI n,a8 t,af e,a8 p,aI f,a8 h,af a,x,aI c,aI I,a8 v,af w,aB o]],false,false⟩)).refs 6;have W:=L.r;clear l J G K d;simp[ai, *,sH,S.r,P.r,O.r,Co];done
 have U:=Sz (gr:=b.gr) J.s.sl G.s.sl (by omega) (by omega) I v w o R;clear l J G K d;simp[ai, *,sH,S.r,P.r,O.r]
end
structure lI (H:aa) (rb rs ru:Ref) (a i:za) (us0:List Clear) (qs:List ak) (gr0:Int) (b:gR):Prop where
 box : ∃xu xq yu yq wu wq,H.get rb=some ⟨10,[.agg [xu,xq,aI gr0,yu,yq,aI b.gr,i.x,.mp rs,.mp ru,a.x]],false,false⟩/\Sl 3 (de us0) xu/\Sl 5 (cR qs) xq/\nw 3 (de b.us) H yu wu/\nw 5 (cR qs) H yq wq
 ses:H.get rs=some (ba (cJ Bj b.ses))
 use:H.get ru=some (ba (cJ zQ b.used))
 cD:iJ 17 (mO b.cD) H a
 out:VL b.cD
 one:i.x.cells=[i.x]/\i.x.one=true
 sep:rb≠rs/\rb≠ru/\rs≠ru/\rb ∉ a.rs/\rs ∉ a.rs/\ru ∉ a.rs
def lI.at{H:aa}{rb rs ru:Ref}{a i:za}{us0:List Clear}{qs:List ak}{gr0:Int}{b:gR}(h:lI H rb rs ru a i us0 qs gr0 b):Fi H rb us0 qs gr0 b:=by
 obtain⟨f,l,p,e,c,t,k,q,n,o,g⟩:=h.box;exact⟨f,l,p,e,c,t,i.x,rs,ru,a.x,a.rs,k,q,n,o,g,h.ses,h.use,⟨h.cD,h.out⟩,h.one⟩
structure RP (H H':aa) (rb rs ru:Ref) (a xh':za):Prop where
 fr:Fr H'
 old : ∀q c,H.get q=some c->q≠rb->q≠rs->q≠ru->q ∉ a.rs->H'.get q=some c/\q ∉ xh'.rs
def nw.aX{z:Nat}{es:List AV}{H H':aa}{x y:AV}(h:nw z es H x y)(g : ∀q c,H.get q=some c->c.gJ=true->H'.get q=some c):nw z es H' x y:=by
 rcases h with h | ⟨r,c,rfl,f,rfl,e⟩
 ·exact .inl h
 exact .inr ⟨r,c,rfl,g _ _ f rfl,rfl,e⟩
def lI.upd{H H':aa}{rb rs ru:Ref}{a i:za}{us0:List Clear}{qs:List ak}{gr0:Int}{b b':gR}(h:lI H rb rs ru a i us0 qs gr0 b)(u:b'.us=b.us)(B:b'.gr=b.gr)(k:b'.cD=b.cD)
 (m:Fr H') (C:H'.get rs=some (ba (cJ Bj b'.ses))) (I:H'.get ru=some (ba (cJ zQ b'.used))) (g : ∀q c,H.get q=some c->q≠rs->q≠ru->H'.get q=some c) :
 lI H' rb rs ru a i us0 qs gr0 b'/\RP H H' rb rs ru a a:=by
 obtain⟨w,D,G,v,t,J,x,y,K,p,z⟩:=h.box;have n : ∀q c,H.get q=some c->c.gJ=true->H'.get q=some c:=by
  intro q c f l;refine g q c f ?_ ?_;·rintro rfl;rw[h.ses]at f;cases f;exact absurd l (by simp[ba])
  rintro rfl;rw[h.use]at f;cases f;exact absurd l (by simp[ba])
 refine⟨⟨⟨w,D,G,v,t,J,?_,y,K,?_,z.aX n⟩,C,I,?_,by rw[k];exact h.out,h.one,h.sep⟩,⟨m,λq c f _ E F A=>⟨g q c f E F,A⟩⟩⟩;·rw[B];exact g _ _ x h.sep.1 h.sep.2.1
 ·rw[u];exact p.aX n
 rw[k];exact h.cD.aX λq f c o=>g q c o (λe=>h.sep.2.2.2.2.1 (by rw[<-e];exact f)) (λe=>h.sep.2.2.2.2.2 (by rw[<-e];exact f))
def CM(b:gR)(o:aw)(u:Int):gR:=
 {b with ses:=jQ o.h (BT.av ⟨true,u,0⟩) b.ses,used:=jQ ⟨o.h.lv,o.h.cats⟩ (Az.av { pS b o with opens:=IntKind.i64.wrap ((pS b o).opens+1)}) b.used}
def IM(b:gR)(o:aw)(c:Int):Az := { pS b o with ops:=IntKind.i64.wrap ((pS b o).ops+1),cells:=if c=0/\o.kind=1 then IntKind.i64.wrap ((pS b o).cells+o.s.many) else (pS b o).cells}
def uB(b:gR)(o:aw)(c:Int)(y:AV):gR:=
 {b with ses:=jQ o.h (BT.av { oc b o with s:=IntKind.i64.wrap ((oc b o).s+1)}) b.ses,used:=jQ ⟨o.h.lv,o.h.cats⟩ (Az.av (IM b o c)) b.used,cD:=if c=0 then b.cD++[(o,y)] else b.cD}
def D4(b:gR)(u:Int)(v:UInt8)(c:UInt32)(ok:Bool):gR := { b with us:=b.us.set u.toNat ⟨v,c,ok⟩,gr:=IntKind.i64.wrap (b.gr - 1)}
def XS{H:aa}{rs:Ref}{l:List (xn × AV)}(c:H.get rs=some (ba (cJ Bj l)))(h:xn)(x:AV):dQ env.P H 126 (some (.mp rs)) (some (.agg [a8 h.lv,af h.cats,a8 h.num])) (some x)=some (AV.undef,H.put rs (some (ba (cJ Bj (jQ h x l))))):=
 vp Lw Iy (t:=126) (et:=73) (by kernel_rfl) c h x
def XR{H:aa}{ru:Ref}{l:List (jW × AV)}(c:H.get ru=some (ba (cJ zQ l)))(v:jW)(x:AV):dQ env.P H 127 (some (.mp ru)) (some (.agg [a8 v.lv,af v.cats])) (some x)=some (AV.undef,H.put ru (some (ba (cJ zQ (jQ v x l))))):=
 vp Lv Iq (t:=127) (et:=81) (by kernel_rfl) c v x
section
variable(dep:Nat){H:aa}(m:Fr H){rb rs ru:Ref}{a i:za}{us0:List Clear}{qs:List ak}{gr0:Int}{b:gR}(d:lI H rb rs ru a i us0 qs gr0 b)(j:uP b)
include m d j
theorem ab3(k:UInt8)(u:Int)(E:UInt8)(e:UInt8)(a_3:UInt32)(C:UInt8)(D:Int)(J:UInt8)(I:UInt32)(F:UInt8)(G:Int)(z:Int)(B:UInt8)(n:UInt32)(A:UInt8)(p:Int)(t:UInt8)(l:UInt32)(c S:Int)(v:UInt8)(w:UInt32)(o:Bool){x:AV}{P:List Int}(hx:Sl 1 (rows P) x) :
 ∃H',cb env dep (.fn 148) [.ptr rb 0 0,.agg [a8 k,aI u,a8 E,a8 e,af a_3,a8 C,aI D,a8 J,af I,a8 F,aI G,aI z,a8 B,af n,a8 A,aI p,a8 t,af l,x,aI c,aI S,a8 v,af w,aB o]] H=some (.v (.tuple #[]),H')/\lI H' rb rs ru a i us0 qs gr0 (CM b (⟨E,⟨e,a_3,C⟩,D,⟨⟨⟨J,I,F⟩,G⟩,z⟩,⟨⟨B,n,A⟩,p⟩,⟨t,l⟩,P⟩:aw) u)/\RP H H' rb rs ru a a:=by
 have Q:bu env Tryz.f148 (dep+1) [.code D9] (uC 0 [.ptr rb 0 0,.agg [a8 k,aI u,a8 E,a8 e,af a_3,a8 C,aI D,a8 J,af I,a8 F,aI G,aI z,a8 B,af n,a8 A,aI p,a8 t,af l,x,aI c,aI S,a8 v,af w,aB o]]) H λy V=>y = .v (.tuple #[])/\lI V rb rs ru a i us0 qs gr0 (CM b (⟨E,⟨e,a_3,C⟩,D,⟨⟨⟨J,I,F⟩,G⟩,z⟩,⟨⟨B,n,A⟩,p⟩,⟨t,l⟩,P⟩:aw) u)/\RP H V rb rs ru a a:=by
  refine Dc _ _ _ _ _ λg=>?_;have K:=λH'=>d.upd (H':=H') (b':=CM b (⟨E,⟨e,a_3,C⟩,D,⟨⟨⟨J,I,F⟩,G⟩,z⟩,⟨⟨B,n,A⟩,p⟩,⟨t,l⟩,P⟩:aw) u) rfl rfl rfl;obtain⟨xu,xq,yu,yq,wu,wq,O,U,h3,W,R⟩:=d.box;have T:=d.ses;have X:=d.use;have c4:=W.s.cells;have c5:=R.s.cells;have c8:=d.cD.one;have c9:=d.one;have l1:(H.get rb).isSome=true:=by rw[O];rfl
  have l6:(H.get rs).isSome=true:=by rw[T];rfl
  have l7:(H.get ru).isSome=true:=by rw[X];rfl
  obtain⟨s1,s2,s3,_⟩:=d.sep;have s1':=s1.symm;have Z:=s2.symm;have s3':=s3.symm;have M:=λ(H':aa)(h:H'.get rs=some (ba (cJ Bj b.ses)))=>XS h ⟨e,a_3,C⟩;have L:=λ(H':aa)(h:H'.get ru=some (ba (cJ zQ b.used)))=>XR h ⟨e,a_3⟩;have N:=λ(H':aa)(h:H'.get ru=some (ba (cJ zQ b.used)))=>Hm (g:=H'.get) j.used h ⟨e,a_3⟩;simp only[CM,pS]at K;unfold CM pS;simp only;generalize wA (cm ⟨e,a_3⟩ b.used)=uu at *;obtain⟨u1,u2,u3⟩:=uu;clear d W R j;simp only[BT.av,Az.av]at K;simp[ai, *,xf,hx.r,O,T,X,N,M,L,BT.av,Az.av];clear M L N;refine K _ ?_ ?_ ?_ λq cc Y n1 n2=>?_;·simp(maxDischargeDepth:=12) [fN, *]
  ·simp(maxDischargeDepth:=12) [fN, *]
  ·simp(maxDischargeDepth:=12) [fN, *]
  have lq:(H.get q).isSome=true:=by rw[Y];rfl
  simp[bE m lq,aa.get_put,n1,n2,n1.symm,n2.symm,Y]
 obtain⟨y,H',O,rfl,U⟩:=nN (f:=148) (by kernel_rfl) (by kernel_rfl) (by kernel_rfl) (by kernel_rfl) (by kernel_rfl) Q;exact⟨H',O,U⟩
theorem abZ(k:UInt8)(u:Int)(F:UInt8)(C:UInt8)(a_3:UInt32)(E:UInt8)(D:Int)(K:UInt8)(J:UInt32)(G:UInt8)(I:Int)(t:Int)(A:UInt8)(l:UInt32)(z:UInt8)(n:Int)(p:UInt8)(h:UInt32)(c B:Int)(v:UInt8)(w:UInt32)(o:Bool){x:AV}{al:List Int}(hx:Sl 1 (rows al) x)(hql:qs.length<1000000)(he:xQ b.us qs b.gr B v w o=0) :
 ∃H',cb env dep (.fn 153) [.ptr rb 0 0,.agg [a8 k,aI u,a8 F,a8 C,af a_3,a8 E,aI D,a8 K,af J,a8 G,aI I,aI t,a8 A,af l,a8 z,aI n,a8 p,af h,x,aI c,aI B,a8 v,af w,aB o]] H=some (.v (.tuple #[]),H')/\lI H' rb rs ru a i us0 qs gr0 (D4 b B v w o)/\RP H H' rb rs ru a a:=by
 have S:bu env Tryz.f153 (dep+1) [.code D6] (uC 0 [.ptr rb 0 0,.agg [a8 k,aI u,a8 F,a8 C,af a_3,a8 E,aI D,a8 K,af J,a8 G,aI I,aI t,a8 A,af l,a8 z,aI n,a8 p,af h,x,aI c,aI B,a8 v,af w,aB o]]) H λy Y=>y = .v (.tuple #[])/\lI Y rb rs ru a i us0 qs gr0 (D4 b B v w o)/\RP H Y rb rs ru a a:=by
  refine C9 _ _ _ _ _ λg=>?_;obtain⟨W,Z,yu,yq,wu,wq,T,R,X,P,N⟩:=d.box;have h6:=d.ses;have h7:=d.use;have c8:=d.cD.one;have c9:=d.one;have l1:(H.get rb).isSome=true:=by rw[T];rfl
  have V:=j.few;have c4:=λb1=>(P.s.cons m (dep+1) 3 (some b1)).r;have c5:=λb1=>(N.s.cons m (dep+1) 3 (some b1)).r;have d4:=P.s.cells;have d5:=N.s.cells;obtain⟨U,O,hA⟩:=ME (gr:=b.gr) P.s.sl N.s.sl (by omega) (by omega) B v w o he;have z4:=(nw.grow P (cf.cons m (dep+1) 3 ⟨24,[.agg [a8 k,aI u,a8 F,a8 C,af a_3,a8 E,aI D,a8 K,af J,a8 G,aI I,aI t,a8 A,af l,a8 z,aI n,a8 p,af h,x,aI c,aI B,a8 v,af w,aB o]],false,false⟩)).refs 6;have z5:=(nw.grow N (cf.cons m (dep+1) 3 ⟨24,[.agg [a8 k,aI u,a8 F,a8 C,af a_3,a8 E,aI D,a8 K,af J,a8 G,aI I,aI t,a8 A,af l,a8 z,aI n,a8 p,af h,x,aI c,aI B,a8 v,af w,aB o]],false,false⟩)).refs 6;have hyr:=O.r;have M : ∀H',Fr H'->H'.get rb=some ⟨10,[.agg [W,Z,aI gr0,.cC 3 (de (b.us.set B.toNat ⟨v,w,o⟩)) none,U,aI (IntKind.i64.wrap (b.gr - 1)),i.x,.mp rs,.mp ru,a.x]],false,false⟩->(∀q c,H.get q=some c->q≠rb->H'.get q=some c) ->
   lI H' rb rs ru a i us0 qs gr0 (D4 b B v w o)/\RP H H' rb rs ru a a:=by
   intro H' f1 f2 Q;refine⟨⟨⟨W,Z,_,U,_,U,f2,R,X,nw.of (Sl.mk _ _) H',nw.of O H'⟩,Q _ _ h6 d.sep.1.symm,Q _ _ h7 d.sep.2.1.symm,?_,d.out,c9,d.sep⟩,⟨f1,λq c L n1 n2 n3 n4=>⟨Q q c L n1,n4⟩⟩⟩;exact d.cD.aX λq L c hc=>Q q c hc (λe=>d.sep.2.2.2.1 (by rw[<-e];exact L))
  clear d P N j;simp[ai, *,xd,hx.r,R.r,X.r,Co];refine M _ ?_ ?_ λq cc L n1=>?_;·simp(maxDischargeDepth:=12) [fN, *]
  ·simp(maxDischargeDepth:=12) [fN, *]
  have lq:(H.get q).isSome=true:=by rw[L];rfl
  simp[bE m lq,aa.get_put,n1,n1.symm,L]
 obtain⟨y,H',T,rfl,R⟩:=nN (f:=153) (by kernel_rfl) (by kernel_rfl) (by kernel_rfl) (by kernel_rfl) (by kernel_rfl) S;exact⟨H',T,R⟩
end
def lI.app{H H':aa}{rb rs ru:Ref}{d xh' D:za}{us0:List Clear}{qs:List ak}{gr0:Int}{b b':gR}(h:lI H rb rs ru d D us0 qs gr0 b)(A:b'.us=b.us)(G:b'.gr=b.gr)
 (a:Fr H') (I:H'.get rs=some (ba (cJ Bj b'.ses))) (K:H'.get ru=some (ba (cJ zQ b'.used))) (v:iJ 17 (mO b'.cD) H' xh') (J:VL b'.cD)
 (p : ∀l m n k,H.get rb=some ⟨10,[.agg [l,m,aI gr0,n,k,aI b.gr,D.x,.mp rs,.mp ru,d.x]],false,false⟩->H'.get rb=some ⟨10,[.agg [l,m,aI gr0,n,k,aI b.gr,D.x,.mp rs,.mp ru,xh'.x]],false,false⟩)
 (g : ∀q c,H.get q=some c->(q ∉ d.rs->q ∉ xh'.rs)/\(q≠rb->q≠rs->q≠ru->q ∉ d.rs->H'.get q=some c)) :
 lI H' rb rs ru xh' D us0 qs gr0 b'/\RP H H' rb rs ru d xh':=by
 obtain⟨l,m,n,k,z,B,o,E,L,y,F⟩:=h.box;have t : ∀q c,H.get q=some c->c.gJ=true->H'.get q=some c:=by
  intro q c f i;refine(g q c f).2 ?_ ?_ ?_ ?_;·rintro rfl;rw[o]at f;cases f;exact absurd i (by simp)
  ·rintro rfl;rw[h.ses]at f;cases f;exact absurd i (by simp[ba])
  ·rintro rfl;rw[h.use]at f;cases f;exact absurd i (by simp[ba])
  intro e;rw[h.cD.gJ q e c f]at i;cases i
 refine⟨⟨⟨l,m,n,k,z,B,?_,E,L,?_,F.aX t⟩,I,K,v,J,h.one,⟨h.sep.1,h.sep.2.1,h.sep.2.2.1,(g _ _ o).1 h.sep.2.2.2.1,(g _ _ h.ses).1 h.sep.2.2.2.2.1,(g _ _ h.use).1 h.sep.2.2.2.2.2⟩⟩,⟨a,λq c f n1 n2 w u=>⟨(g q c f).2 n1 n2 w u,(g q c f).1 u⟩⟩⟩;·rw[G];exact p _ _ _ _ o
 rw[A];exact y.aX t
def D3{H:aa}{rs:Ref}{l:List (xn × AV)}(g:H.get rs=some (ba (cJ Bj l)))(h:xn){K:AV->aa->Prop}{m:Mk (jl env.P H 126 (some (.mp rs)) (some (.agg [a8 h.lv,af h.cats,a8 h.num])),K)}
 (k : ∀(i:Nat) c,(∀(H':aa) x,H'.get rs=some (ba (cJ Bj c))->fQ H' (some (.mp rs)) (some (aI i)) (some x)=some (AV.undef,H'.put rs (some (ba (cJ Bj (jQ h x l)))))) ->∀z,K (.tup [z,aI i]) (H.put rs (some (ba (cJ Bj c))))) :
 lE (jl env.P H 126 (some (.mp rs)) (some (.agg [a8 h.lv,af h.cats,a8 h.num]))) K m:=by
 obtain⟨i,c,f,⟨x0,e⟩,o⟩:=B7 Lw Iy (t:=126) (et:=73) (by kernel_rfl) (z := .agg [aB false,aI 0,aI 0]) (by kernel_rfl) g h;refine tL f (k i c (λH' x n=>?_) _);rw[<-o x];exact Ak n e _ x
def D2{H:aa}{ru:Ref}{l:List (jW × AV)}(g:H.get ru=some (ba (cJ zQ l)))(v:jW){K:AV->aa->Prop}{m:Mk (jl env.P H 127 (some (.mp ru)) (some (.agg [a8 v.lv,af v.cats])),K)}
 (h : ∀(i:Nat) c,(∀(H':aa) x,H'.get ru=some (ba (cJ zQ c))->fQ H' (some (.mp ru)) (some (aI i)) (some x)=some (AV.undef,H'.put ru (some (ba (cJ zQ (jQ v x l)))))) ->∀z,K (.tup [z,aI i]) (H.put ru (some (ba (cJ zQ c))))) :
 lE (jl env.P H 127 (some (.mp ru)) (some (.agg [a8 v.lv,af v.cats]))) K m:=by
 obtain⟨i,c,f,⟨x0,e⟩,n⟩:=B7 Lv Iq (t:=127) (et:=81) (by kernel_rfl) (z := .agg [a8 0,af 0,aI 0,aI 0,aI 0]) (by kernel_rfl) g v;refine tL f (h i c (λH' x k=>?_) _);rw[<-n x];exact Ak k e _ x
section
variable(dep:Nat){H:aa}(a:Fr H){rb rs ru:Ref}{d D:za}{us0:List Clear}{qs:List ak}{gr0:Int}{b:gR}(j:lI H rb rs ru d D us0 qs gr0 b)(C:uP b)
include a j C
theorem ab1(k:UInt8)(u:Int)(F:UInt8)(e:UInt8)(a_3:UInt32)(n:UInt8)(E:Int)(K:UInt8)(J:UInt32)(G:UInt8)(I:Int)(z:Int)(B:UInt8)(m:UInt32)(A:UInt8)(p:Int)(t:UInt8)(i:UInt32)(c V:Int)(v:UInt8)(w:UInt32)(o:Bool){x:AV}{S:List Int}(hx:Sl 1 (rows S) x)(Q:c≠0) :
 ∃H',cb env dep (.fn 150) [.ptr rb 0 0,.agg [a8 k,aI u,a8 F,a8 e,af a_3,a8 n,aI E,a8 K,af J,a8 G,aI I,aI z,a8 B,af m,a8 A,aI p,a8 t,af i,x,aI c,aI V,a8 v,af w,aB o]] H=some (.v (.tuple #[]),H')/\lI H' rb rs ru d D us0 qs gr0 (uB b (⟨F,⟨e,a_3,n⟩,E,⟨⟨⟨K,J,G⟩,I⟩,z⟩,⟨⟨B,m,A⟩,p⟩,⟨t,i⟩,S⟩:aw) c bI)/\RP H H' rb rs ru d d:=by
 have T:bu env Tryz.f150 (dep+1) [.code xa] (uC 0 [.ptr rb 0 0,.agg [a8 k,aI u,a8 F,a8 e,af a_3,a8 n,aI E,a8 K,af J,a8 G,aI I,aI z,a8 B,af m,a8 A,aI p,a8 t,af i,x,aI c,aI V,a8 v,af w,aB o]]) H λy Y=>y = .v (.tuple #[])/\lI Y rb rs ru d D us0 qs gr0 (uB b (⟨F,⟨e,a_3,n⟩,E,⟨⟨⟨K,J,G⟩,I⟩,z⟩,⟨⟨B,m,A⟩,p⟩,⟨t,i⟩,S⟩:aw) c bI)/\RP H Y rb rs ru d d:=by
  refine wM _ _ _ _ _ λg=>?_;have M:=λH'=>j.upd (H':=H') (b':=uB b (⟨F,⟨e,a_3,n⟩,E,⟨⟨⟨K,J,G⟩,I⟩,z⟩,⟨⟨B,m,A⟩,p⟩,⟨t,i⟩,S⟩:aw) c bI) rfl rfl (by simp[uB,Q]);obtain⟨xu,xq,yu,yq,wu,wq,R,X,h3,Z,U⟩:=j.box;have W:=j.ses;have h7:=j.use;have c4:=Z.s.cells;have c5:=U.s.cells;have c8:=j.cD.one;have c9:=j.one;have l1:(H.get rb).isSome=true:=by rw[R];rfl
  have l6:(H.get rs).isSome=true:=by rw[W];rfl
  have l7:(H.get ru).isSome=true:=by rw[h7];rfl
  obtain⟨s1,s2,s3,_⟩:=j.sep;have s1':=s1.symm;have s2':=s2.symm;have s3':=s3.symm;have P:=λ(H':aa)(h:H'.get ru=some (ba (cJ zQ b.used)))=>Hm (g:=H'.get) C.used h ⟨e,a_3⟩;have L:=λ(H':aa)(h:H'.get rs=some (ba (cJ Bj b.ses)))=>K1 (g:=H'.get) C.ses h ⟨e,a_3,n⟩;simp only[uB,IM,pS,oc,Q,iQu,iQf]at M;unfold uB IM pS oc;simp only[Q,iQu,iQf];generalize wA (cm ⟨e,a_3⟩ b.used)=uu at *;obtain⟨u1,u2,u3⟩:=uu;generalize uf (cm ⟨e,a_3,n⟩ b.ses)=ss at *;obtain⟨t1,t2,t3⟩:=ss;clear j Z U C;simp only[BT.av,Az.av]at M;simp[ai, *,kn,hx.r,R,W,h7,P,L,BT.av,Az.av,iB,lL,fC,nV,Q];refine D3 (l:=b.ses) ?_ ⟨e,a_3,n⟩ λi1 m1 O z1=>?_;·simp(maxDischargeDepth:=12) [fN, *]
  simp[ai, *,aa.get_put,O];refine D2 (l:=b.used) ?_ ⟨e,a_3⟩ λi2 m2 N z2=>?_;·simp(maxDischargeDepth:=12) [fN, *]
  simp[ai, *,aa.get_put,N];clear P L O N;refine M _ ?_ ?_ ?_ λq cc hq n1 n2=>?_;·simp(maxDischargeDepth:=12) [fN, *]
  ·simp(maxDischargeDepth:=12) [fN, *]
  ·simp(maxDischargeDepth:=12) [fN, *]
  have lq:(H.get q).isSome=true:=by rw[hq];rfl
  simp[bE a lq,aa.get_put,n1,n2,n1.symm,n2.symm,hq]
 obtain⟨y,H',R,rfl,X⟩:=nN (f:=150) (by kernel_rfl) (by kernel_rfl) (by kernel_rfl) (by kernel_rfl) (by kernel_rfl) T;exact⟨H',R,X⟩
theorem YX(k:UInt8)(u:Int)(O:UInt8)(i:UInt8)(a_3:UInt32)(F:UInt8)(U:Int)(S:UInt8)(R:UInt32)(V:UInt8)(Q:Int)(t:Int)(M:UInt8)(K:UInt32)(I:UInt8)(G:Int)(L:UInt8)(J:UInt32)(g1:Int)(v:UInt8)(w:UInt32)(o:Bool){N:List Int}(hal:N.length<1000000) :
 ∃H' xh',cb env dep (.fn 150) [.ptr rb 0 0,.agg [a8 k,aI u,a8 O,a8 i,af a_3,a8 F,aI U,a8 S,af R,a8 V,aI Q,aI t,a8 M,af K,a8 I,aI G,a8 L,af J,ep 1 (rows N),aI 0,aI g1,a8 v,af w,aB o]] H=some (.v (.tuple #[]),H')/\lI H' rb rs ru xh' D us0 qs gr0 (uB b (⟨O,⟨i,a_3,F⟩,U,⟨⟨⟨S,R,V⟩,Q⟩,t⟩,⟨⟨M,K,I⟩,G⟩,⟨L,J⟩,N⟩:aw) 0 (ep 1 (rows N)))/\RP H H' rb rs ru d xh':=by
 have hT:=Q1 O i a_3 F U S R V Q t M K I G L J hal;have hgo:bu env Tryz.f150 (dep+1) [.code xa] (uC 0 [.ptr rb 0 0,.agg [a8 k,aI u,a8 O,a8 i,af a_3,a8 F,aI U,a8 S,af R,a8 V,aI Q,aI t,a8 M,af K,a8 I,aI G,a8 L,af J,ep 1 (rows N),aI 0,aI g1,a8 v,af w,aB o]]) H λz H1=>z = .v (.tuple #[]) /\∃xh',lI H1 rb rs ru xh' D us0 qs gr0 (uB b (⟨O,⟨i,a_3,F⟩,U,⟨⟨⟨S,R,V⟩,Q⟩,t⟩,⟨⟨M,K,I⟩,G⟩,⟨L,J⟩,N⟩:aw) 0 (ep 1 (rows N)))/\RP H H1 rb rs ru d xh':=by
  refine wM _ _ _ _ _ λg=>?_;obtain⟨xu,xq,yu,yq,wu,wq,h1,h2,h3,h4,h5⟩:=j.box;have h6:=j.ses;have h7:=j.use;have c4:=h4.s.cells;have c5:=h5.s.cells;have c8:=j.cD.one;have c9:=j.one;have l1:(H.get rb).isSome=true:=by rw[h1];rfl
  have l6:(H.get rs).isSome=true:=by rw[h6];rfl
  have l7:(H.get ru).isSome=true:=by rw[h7];rfl
  have hyr:=(gT 1 (rows N)).r;obtain⟨s1,s2,s3,s4,s5,s6⟩:=j.sep;have s1':=s1.symm;have s2':=s2.symm;have s3':=s3.symm;have hlk:=λ(H':aa)(h:H'.get ru=some (ba (cJ zQ b.used)))=>Hm (g:=H'.get) C.used h ⟨i,a_3⟩;have Y:=λ(H':aa)(h:H'.get rs=some (ba (cJ Bj b.ses)))=>K1 (g:=H'.get) C.ses h ⟨i,a_3,F⟩;have hmany:=C.many;have heo:mO (uB b (⟨O,⟨i,a_3,F⟩,U,⟨⟨⟨S,R,V⟩,Q⟩,t⟩,⟨⟨M,K,I⟩,G⟩,⟨L,J⟩,N⟩:aw) 0 (ep 1 (rows N))).cD=mO b.cD++[.agg (S0 (⟨O,⟨i,a_3,F⟩,U,⟨⟨⟨S,R,V⟩,Q⟩,t⟩,⟨⟨M,K,I⟩,G⟩,⟨L,J⟩,N⟩:aw)++oP 1 (rows N) :: [])]:=by simp[uB,mO]
  have hoo:VL (uB b (⟨O,⟨i,a_3,F⟩,U,⟨⟨⟨S,R,V⟩,Q⟩,t⟩,⟨⟨M,K,I⟩,G⟩,⟨L,J⟩,N⟩:aw) 0 (ep 1 (rows N))).cD:=by
   intro p hp;simp only[uB,if_true]at hp;rcases iN.1 hp with hp | hp
   ·exact j.out p hp
   rw[nc.1 hp]
  have hds:(uB b (⟨O,⟨i,a_3,F⟩,U,⟨⟨⟨S,R,V⟩,Q⟩,t⟩,⟨⟨M,K,I⟩,G⟩,⟨L,J⟩,N⟩:aw) 0 (ep 1 (rows N))).ses=jQ ⟨i,a_3,F⟩ (BT.av { uf (cm ⟨i,a_3,F⟩ b.ses)with s:=IntKind.i64.wrap ((uf (cm ⟨i,a_3,F⟩ b.ses)).s+1)}) b.ses:=rfl;have hdu:(uB b (⟨O,⟨i,a_3,F⟩,U,⟨⟨⟨S,R,V⟩,Q⟩,t⟩,⟨⟨M,K,I⟩,G⟩,⟨L,J⟩,N⟩:aw) 0 (ep 1 (rows N))).used=jQ ⟨i,a_3⟩ (Az.av { wA (cm ⟨i,a_3⟩ b.used)with ops:=IntKind.i64.wrap ((wA (cm ⟨i,a_3⟩ b.used)).ops+1),cells:=if O=1 then IntKind.i64.wrap ((wA (cm ⟨i,a_3⟩ b.used)).cells+t) else (wA (cm ⟨i,a_3⟩ b.used)).cells}) b.used:=(by simp[uB,IM,pS]);generalize wA (cm ⟨i,a_3⟩ b.used)=uu at *;obtain⟨u1,u2,u3⟩:=uu;generalize uf (cm ⟨i,a_3,F⟩ b.ses)=ss at *;obtain⟨t1,t2,t3⟩:=ss;have cD:=j.cD;have happ:=λH' xh'=>lI.app (H':=H') (xh':=xh') (b':=uB b (⟨O,⟨i,a_3,F⟩,U,⟨⟨⟨S,R,V⟩,Q⟩,t⟩,⟨⟨M,K,I⟩,G⟩,⟨L,J⟩,N⟩:aw) 0 (ep 1 (rows N))) j rfl rfl;rw[hds,hdu,heo]at happ;simp only[BT.av,Az.av]at happ;clear hds hdu heo;have hbx : ∀(xh':za)(H':aa),H'.get rb=some ⟨10,[.agg [xu,xq,aI gr0,yu,yq,aI b.gr,D.x,.mp rs,.mp ru,xh'.x]],false,false⟩ ->∀xu xq yu yq,H.get rb=some ⟨10,[.agg [xu,xq,aI gr0,yu,yq,aI b.gr,D.x,.mp rs,.mp ru,d.x]],false,false⟩->H'.get rb=some ⟨10,[.agg [xu,xq,aI gr0,yu,yq,aI b.gr,D.x,.mp rs,.mp ru,xh'.x]],false,false⟩:=(by intro xh' H' h xu' xq' yu' yq' h';rw[h1]at h';simp only[dG,aQ.mk.injEq,Ah,AV.agg.injEq,iQv,iQo]at h';obtain⟨rfl,rfl,rfl,rfl⟩:=h';exact h);have hQ : ∀(H':aa)(xh':za),Fr H'->H'.get rs=some (ba (cJ Bj (jQ ⟨i,a_3,F⟩ (.agg [aB t1,aI t2,aI (IntKind.i64.wrap (t3+1))]) b.ses))) ->
   H'.get ru=some (ba (cJ zQ (jQ ⟨i,a_3⟩ (.agg [a8 0,af 0,aI u1,aI (IntKind.i64.wrap (u2+1)),aI (if O=1 then IntKind.i64.wrap (u3+t) else u3)]) b.used)))->iJ 17 (mO b.cD++[.agg (S0 (⟨O,⟨i,a_3,F⟩,U,⟨⟨⟨S,R,V⟩,Q⟩,t⟩,⟨⟨M,K,I⟩,G⟩,⟨L,J⟩,N⟩:aw)++oP 1 (rows N) :: [])]) H' xh' ->
   H'.get rb=some ⟨10,[.agg [xu,xq,aI gr0,yu,yq,aI b.gr,D.x,.mp rs,.mp ru,xh'.x]],false,false⟩->(∀q c,H.get q=some c->(q ∉ d.rs->q ∉ xh'.rs)/\(q≠rb->q≠rs->q≠ru->q ∉ d.rs->H'.get q=some c)) ->
   ∃xh',lI H' rb rs ru xh' D us0 qs gr0 (uB b (⟨O,⟨i,a_3,F⟩,U,⟨⟨⟨S,R,V⟩,Q⟩,t⟩,⟨⟨M,K,I⟩,G⟩,⟨L,J⟩,N⟩:aw) 0 (ep 1 (rows N)))/\RP H H' rb rs ru d xh':=
   λH' xh' a1 a2 a3 a4 a5 a6=>⟨xh',happ H' xh' a1 a2 a3 a4 hoo (hbx _ _ a5) a6⟩
  clear happ hbx hoo;have hol:(mO b.cD).length=b.cD.length:=EJ _;clear j h4 h5 C;generalize uB b (⟨O,⟨i,a_3,F⟩,U,⟨⟨⟨S,R,V⟩,Q⟩,t⟩,⟨⟨M,K,I⟩,G⟩,⟨L,J⟩,N⟩:aw) 0 (ep 1 (rows N))=B' at *;generalize hro:mO b.cD=ro at *;clear hro;have hrl:(rows N).length=N.length:=by simp
  by_cases he:rows N=[]
  ·have z1:ep 1 (rows N)=bI:=by rw[he];rfl
   have z2:oP 1 (rows N)=bI:=by rw[he];rfl
   rw[z1]at hT hyr ⊢;rw[z2]at hT;clear z1 z2;replace hQ:=PLift.up hQ;by_cases hk1:O=1
   ·subst hk1;simp[ai, *,kn,h1,h6,h7,hlk,Y,BT.av,Az.av,iB,lL,fC,nV];refine iJ.app (T:=41) (z:=17) (by':=112) (by kernel_rfl) (by kernel_rfl) ?_ (cD.aX ?_) (A:=S0 ⟨1,⟨i,a_3,F⟩,U,⟨⟨⟨S,R,V⟩,Q⟩,t⟩,⟨⟨M,K,I⟩,G⟩,⟨L,J⟩,N⟩) (B:=[]) (rw':=rows N) (y:=bI) rfl rfl ?_ rfl (by decide) rfl ?_ (dp:=dep+1) (t1:=42) ?_ λH2 h2 hF2 hR2 k2 m2 n2=>?_;·simp(maxDischargeDepth:=12) [fN, *]
    ·intro q m cc X;have W:(H.get q).isSome=true:=by rw[X];rfl
     simp[bE a W,X]
    ·exact .inl ⟨rfl,he⟩
    ·rw[hol];show(_+1) * 112<=140737488355328;omega
    ·simp
    have kk : ∀p c,p ∉ d.rs->aa.get _ p=some c->H2.get p=some c:=λp c Z X=>k2 p c X λn e=>Z (cD.head e);have g3:=kk ⟨dep+1,3,H.gen (dep+1) 3,0⟩ _ (cD.Jy (eH a _ _ _)) (by simp;rfl);have g4:=kk ⟨dep+1,4,H.gen (dep+1) 4,0⟩ _ (cD.Jy (eH a _ _ _)) (by simp;rfl);have g5:=kk ⟨dep+1,5,H.gen (dep+1) 5,0⟩ _ (cD.Jy (eH a _ _ _)) (by simp;rfl);have E : ∀q c,H.get q=some c->q ∉ d.rs->H2.get q=some c:=λq c m Z=>kk q c Z (by
     have W:(H.get q).isSome=true:=by rw[m];rfl
     simp[bE a W,m])
    have gb:=E rb _ h1 s4;have gs:=E rs _ h6 s5;have gu:=E ru _ h7 s6;have P : ∀q c,H.get q=some c->q ∉ d.rs->q ∉ h2.rs:=λq c m Z hm=>by
     have W:(H.get q).isSome=true:=by rw[m];rfl
     rcases m2 q hm with h | ⟨n,c',h⟩ | h
     ·exact Z h
     ·first | (cases h;done) | (cases h;exact absurd m (by rw[eH a];simp))
     simp[bE a W,m]at h
    have n5:(⟨dep+1,5,H.gen (dep+1) 5,0⟩:Ref) ∉ h2.rs:=λhm=>by
     rcases m2 _ hm with h | ⟨n,c',h⟩ | h
     ·exact cD.Jy (eH a _ _ _) h
     ·cases h
     simp at h
    have nb:=P rb _ h1 s4;have ns:=P rs _ h6 s5;have nu:=P ru _ h7 s6;have q1:(H2.get rb).isSome=true:=by rw[gb];rfl
    have q2:(H2.get rs).isSome=true:=by rw[gs];rfl
    have q3:(H2.get ru).isSome=true:=by rw[gu];rfl
    have hc2:=hR2.one;clear k2 m2 n2 kk;simp[ai, *,iB,lL,fC,nV];refine D3 (l:=b.ses) ?_ ⟨i,a_3,F⟩ λi1 m1 he1 z1=>?_;·simp[aa.get_put,bE,jq, *]
    simp[ai, *,aa.get_put,he1];refine D2 (l:=b.used) ?_ ⟨i,a_3⟩ λi2 m2 he2 z2=>?_;·simp[aa.get_put,bE,jq, *]
    simp[ai, *,aa.get_put,he2];clear hlk Y he1 he2;refine hQ.down _ h2 ?_ ?_ ?_ (hR2.aX λq m cc X=>?_) ?_ λq cc m=>⟨P q cc m,λn1 n2 n3 n4=>?_⟩;·simp(maxDischargeDepth:=12) [fN, *]
    ·simp[aa.get_put,bE,jq, *]
    ·simp[aa.get_put,bE,jq, *]
    ·have e1:q≠rb:=λe=>nb (e ▸ m);have e2:q≠rs:=λe=>ns (e ▸ m);have e3:q≠ru:=λe=>nu (e ▸ m);have e5:q≠⟨dep+1,5,H.gen (dep+1) 5,0⟩:=λe=>n5 (e ▸ m);simp[aa.get_put,e1,e2,e3,e5,X]
    ·simp[aa.get_put,bE,jq, *]
    ·have W:(H.get q).isSome=true:=by rw[m];rfl
     have:=E q cc m n4;simp[aa.get_put,bE a W,jq a W,n1,n2,n3,this]
    done
   simp[ai, *,kn,h1,h6,h7,hlk,Y,BT.av,Az.av,iB,lL,fC,nV,hk1];refine iJ.app (T:=41) (z:=17) (by':=112) (by kernel_rfl) (by kernel_rfl) ?_ (cD.aX ?_) (A:=S0 ⟨O,⟨i,a_3,F⟩,U,⟨⟨⟨S,R,V⟩,Q⟩,t⟩,⟨⟨M,K,I⟩,G⟩,⟨L,J⟩,N⟩) (B:=[]) (rw':=rows N) (y:=bI) rfl rfl ?_ rfl (by decide) rfl ?_ (dp:=dep+1) (t1:=42) ?_ λH2 h2 hF2 hR2 k2 m2 n2=>?_;·simp(maxDischargeDepth:=12) [fN, *]
   ·intro q m cc X;have W:(H.get q).isSome=true:=by rw[X];rfl
    simp[bE a W,X]
   ·exact .inl ⟨rfl,he⟩
   ·rw[hol];show(_+1) * 112<=140737488355328;omega
   ·simp
   have kk : ∀p c,p ∉ d.rs->aa.get _ p=some c->H2.get p=some c:=λp c Z X=>k2 p c X λn e=>Z (cD.head e);have g3:=kk ⟨dep+1,3,H.gen (dep+1) 3,0⟩ _ (cD.Jy (eH a _ _ _)) (by simp;rfl);have g4:=kk ⟨dep+1,4,H.gen (dep+1) 4,0⟩ _ (cD.Jy (eH a _ _ _)) (by simp;rfl);have g5:=kk ⟨dep+1,5,H.gen (dep+1) 5,0⟩ _ (cD.Jy (eH a _ _ _)) (by simp;rfl);have E : ∀q c,H.get q=some c->q ∉ d.rs->H2.get q=some c:=λq c m Z=>kk q c Z (by
    have W:(H.get q).isSome=true:=by rw[m];rfl
    simp[bE a W,m])
   have gb:=E rb _ h1 s4;have gs:=E rs _ h6 s5;have gu:=E ru _ h7 s6;have P : ∀q c,H.get q=some c->q ∉ d.rs->q ∉ h2.rs:=λq c m Z hm=>by
    have W:(H.get q).isSome=true:=by rw[m];rfl
    rcases m2 q hm with h | ⟨n,c',h⟩ | h
    ·exact Z h
    ·first | (cases h;done) | (cases h;exact absurd m (by rw[eH a];simp))
    simp[bE a W,m]at h
   have n5:(⟨dep+1,5,H.gen (dep+1) 5,0⟩:Ref) ∉ h2.rs:=λhm=>by
    rcases m2 _ hm with h | ⟨n,c',h⟩ | h
    ·exact cD.Jy (eH a _ _ _) h
    ·cases h
    simp at h
   have nb:=P rb _ h1 s4;have ns:=P rs _ h6 s5;have nu:=P ru _ h7 s6;have q1:(H2.get rb).isSome=true:=by rw[gb];rfl
   have q2:(H2.get rs).isSome=true:=by rw[gs];rfl
   have q3:(H2.get ru).isSome=true:=by rw[gu];rfl
   have hc2:=hR2.one;clear k2 m2 n2 kk;simp[ai, *,iB,lL,fC,nV];refine D3 (l:=b.ses) ?_ ⟨i,a_3,F⟩ λi1 m1 he1 z1=>?_;·simp[aa.get_put,bE,jq, *]
   simp[ai, *,aa.get_put,he1];refine D2 (l:=b.used) ?_ ⟨i,a_3⟩ λi2 m2 he2 z2=>?_;·simp[aa.get_put,bE,jq, *]
   simp[ai, *,aa.get_put,he2];clear hlk Y he1 he2;refine hQ.down _ h2 ?_ ?_ ?_ (hR2.aX λq m cc X=>?_) ?_ λq cc m=>⟨P q cc m,λn1 n2 n3 n4=>?_⟩;·simp(maxDischargeDepth:=12) [fN, *]
   ·simp[aa.get_put,bE,jq, *]
   ·simp[aa.get_put,bE,jq, *]
   ·have e1:q≠rb:=λe=>nb (e ▸ m);have e2:q≠rs:=λe=>ns (e ▸ m);have e3:q≠ru:=λe=>nu (e ▸ m);have e5:q≠⟨dep+1,5,H.gen (dep+1) 5,0⟩:=λe=>n5 (e ▸ m);simp[aa.get_put,e1,e2,e3,e5,X]
   ·simp[aa.get_put,bE,jq, *]
   ·have W:(H.get q).isSome=true:=by rw[m];rfl
    have:=E q cc m n4;simp[aa.get_put,bE a W,jq a W,n1,n2,n3,this]
   done
  rw[qv 1 he]at hT hyr ⊢;rw[pe 1 he]at hT;replace hQ:=PLift.up hQ;by_cases hk1:O=1
  ·subst hk1;simp[ai, *,kn,h1,h6,h7,hlk,Y,BT.av,Az.av,iB,lL,fC,nV];refine iJ.app (T:=41) (z:=17) (by':=112) (by kernel_rfl) (by kernel_rfl) ?_ (cD.aX ?_) (A:=S0 ⟨1,⟨i,a_3,F⟩,U,⟨⟨⟨S,R,V⟩,Q⟩,t⟩,⟨⟨M,K,I⟩,G⟩,⟨L,J⟩,N⟩) (B:=[]) (rw':=rows N) (y := .bN ⟨dep+1,41,H.gen (dep+1) 41,0⟩ 0 N.length none) rfl rfl ?_ rfl (by decide) rfl ?_ (dp:=dep+1) (t1:=42) ?_ λH2 h2 hF2 hR2 k2 m2 n2=>?_;·simp(maxDischargeDepth:=12) [fN, *]
   ·intro q m cc X;have W:(H.get q).isSome=true:=by rw[X];rfl
    simp[bE a W,X]
   ·exact .inr ⟨he,⟨dep+1,41,H.gen (dep+1) 41,0⟩,by rw[hrl],by simp,cD.Jy (eH a _ _ _)⟩
   ·rw[hol];show(_+1) * 112<=140737488355328;omega
   ·simp
   have kk : ∀p c,p ∉ d.rs->aa.get _ p=some c->H2.get p=some c:=λp c Z X=>k2 p c X λn e=>Z (cD.head e);have g3:=kk ⟨dep+1,3,H.gen (dep+1) 3,0⟩ _ (cD.Jy (eH a _ _ _)) (by simp;rfl);have g4:=kk ⟨dep+1,4,H.gen (dep+1) 4,0⟩ _ (cD.Jy (eH a _ _ _)) (by simp;rfl);have g5:=kk ⟨dep+1,5,H.gen (dep+1) 5,0⟩ _ (cD.Jy (eH a _ _ _)) (by simp;rfl);have E : ∀q c,H.get q=some c->q ∉ d.rs->H2.get q=some c:=λq c m Z=>kk q c Z (by
    have W:(H.get q).isSome=true:=by rw[m];rfl
    simp[bE a W,m])
   have gb:=E rb _ h1 s4;have gs:=E rs _ h6 s5;have gu:=E ru _ h7 s6;have P : ∀q c,H.get q=some c->q ∉ d.rs->q ∉ h2.rs:=λq c m Z hm=>by
    have W:(H.get q).isSome=true:=by rw[m];rfl
    rcases m2 q hm with h | ⟨n,c',h⟩ | h
    ·exact Z h
    ·first | (cases h;done) | (cases h;exact absurd m (by rw[eH a];simp))
    simp[bE a W,m]at h
   have n5:(⟨dep+1,5,H.gen (dep+1) 5,0⟩:Ref) ∉ h2.rs:=λhm=>by
    rcases m2 _ hm with h | ⟨n,c',h⟩ | h
    ·exact cD.Jy (eH a _ _ _) h
    ·cases h
    simp at h
   have nb:=P rb _ h1 s4;have ns:=P rs _ h6 s5;have nu:=P ru _ h7 s6;have q1:(H2.get rb).isSome=true:=by rw[gb];rfl
   have q2:(H2.get rs).isSome=true:=by rw[gs];rfl
   have q3:(H2.get ru).isSome=true:=by rw[gu];rfl
   have hc2:=hR2.one;clear k2 m2 n2 kk;simp[ai, *,iB,lL,fC,nV];refine D3 (l:=b.ses) ?_ ⟨i,a_3,F⟩ λi1 m1 he1 z1=>?_;·simp[aa.get_put,bE,jq, *]
   simp[ai, *,aa.get_put,he1];refine D2 (l:=b.used) ?_ ⟨i,a_3⟩ λi2 m2 he2 z2=>?_;·simp[aa.get_put,bE,jq, *]
   simp[ai, *,aa.get_put,he2];clear hlk Y he1 he2;refine hQ.down _ h2 ?_ ?_ ?_ (hR2.aX λq m cc X=>?_) ?_ λq cc m=>⟨P q cc m,λn1 n2 n3 n4=>?_⟩;·simp(maxDischargeDepth:=12) [fN, *]
   ·simp[aa.get_put,bE,jq, *]
   ·simp[aa.get_put,bE,jq, *]
   ·have e1:q≠rb:=λe=>nb (e ▸ m);have e2:q≠rs:=λe=>ns (e ▸ m);have e3:q≠ru:=λe=>nu (e ▸ m);have e5:q≠⟨dep+1,5,H.gen (dep+1) 5,0⟩:=λe=>n5 (e ▸ m);simp[aa.get_put,e1,e2,e3,e5,X]
   ·simp[aa.get_put,bE,jq, *]
   ·have W:(H.get q).isSome=true:=by rw[m];rfl
    have:=E q cc m n4;simp[aa.get_put,bE a W,jq a W,n1,n2,n3,this]
   done
  simp[ai, *,kn,h1,h6,h7,hlk,Y,BT.av,Az.av,iB,lL,fC,nV,hk1];refine iJ.app (T:=41) (z:=17) (by':=112) (by kernel_rfl) (by kernel_rfl) ?_ (cD.aX ?_) (A:=S0 ⟨O,⟨i,a_3,F⟩,U,⟨⟨⟨S,R,V⟩,Q⟩,t⟩,⟨⟨M,K,I⟩,G⟩,⟨L,J⟩,N⟩) (B:=[]) (rw':=rows N) (y := .bN ⟨dep+1,41,H.gen (dep+1) 41,0⟩ 0 N.length none) rfl rfl ?_ rfl (by decide) rfl ?_ (dp:=dep+1) (t1:=42) ?_ λH2 h2 hF2 hR2 k2 m2 n2=>?_;·simp(maxDischargeDepth:=12) [fN, *]
  ·intro q m cc X;have W:(H.get q).isSome=true:=by rw[X];rfl
   simp[bE a W,X]
  ·exact .inr ⟨he,⟨dep+1,41,H.gen (dep+1) 41,0⟩,by rw[hrl],by simp,cD.Jy (eH a _ _ _)⟩
  ·rw[hol];show(_+1) * 112<=140737488355328;omega
  ·simp
  have kk : ∀p c,p ∉ d.rs->aa.get _ p=some c->H2.get p=some c:=λp c Z X=>k2 p c X λn e=>Z (cD.head e);have g3:=kk ⟨dep+1,3,H.gen (dep+1) 3,0⟩ _ (cD.Jy (eH a _ _ _)) (by simp;rfl);have g4:=kk ⟨dep+1,4,H.gen (dep+1) 4,0⟩ _ (cD.Jy (eH a _ _ _)) (by simp;rfl);have g5:=kk ⟨dep+1,5,H.gen (dep+1) 5,0⟩ _ (cD.Jy (eH a _ _ _)) (by simp;rfl);have E : ∀q c,H.get q=some c->q ∉ d.rs->H2.get q=some c:=λq c m Z=>kk q c Z (by
   have W:(H.get q).isSome=true:=by rw[m];rfl
   simp[bE a W,m])
  have gb:=E rb _ h1 s4;have gs:=E rs _ h6 s5;have gu:=E ru _ h7 s6;have P : ∀q c,H.get q=some c->q ∉ d.rs->q ∉ h2.rs:=λq c m Z hm=>by
   have W:(H.get q).isSome=true:=by rw[m];rfl
   rcases m2 q hm with h | ⟨n,c',h⟩ | h
   ·exact Z h
   ·first | (cases h;done) | (cases h;exact absurd m (by rw[eH a];simp))
   simp[bE a W,m]at h
  have n5:(⟨dep+1,5,H.gen (dep+1) 5,0⟩:Ref) ∉ h2.rs:=λhm=>by
   rcases m2 _ hm with h | ⟨n,c',h⟩ | h
   ·exact cD.Jy (eH a _ _ _) h
   ·cases h
   simp at h
  have nb:=P rb _ h1 s4;have ns:=P rs _ h6 s5;have nu:=P ru _ h7 s6;have q1:(H2.get rb).isSome=true:=by rw[gb];rfl
  have q2:(H2.get rs).isSome=true:=by rw[gs];rfl
  have q3:(H2.get ru).isSome=true:=by rw[gu];rfl
  have hc2:=hR2.one;clear k2 m2 n2 kk;simp[ai, *,iB,lL,fC,nV];refine D3 (l:=b.ses) ?_ ⟨i,a_3,F⟩ λi1 m1 he1 z1=>?_;·simp[aa.get_put,bE,jq, *]
  simp[ai, *,aa.get_put,he1];refine D2 (l:=b.used) ?_ ⟨i,a_3⟩ λi2 m2 he2 z2=>?_;·simp[aa.get_put,bE,jq, *]
  simp[ai, *,aa.get_put,he2];clear hlk Y he1 he2;refine hQ.down _ h2 ?_ ?_ ?_ (hR2.aX λq m cc X=>?_) ?_ λq cc m=>⟨P q cc m,λn1 n2 n3 n4=>?_⟩;·simp(maxDischargeDepth:=12) [fN, *]
  ·simp[aa.get_put,bE,jq, *]
  ·simp[aa.get_put,bE,jq, *]
  ·have e1:q≠rb:=λe=>nb (e ▸ m);have e2:q≠rs:=λe=>ns (e ▸ m);have e3:q≠ru:=λe=>nu (e ▸ m);have e5:q≠⟨dep+1,5,H.gen (dep+1) 5,0⟩:=λe=>n5 (e ▸ m);simp[aa.get_put,e1,e2,e3,e5,X]
  ·simp[aa.get_put,bE,jq, *]
  ·have W:(H.get q).isSome=true:=by rw[m];rfl
   have:=E q cc m n4;simp[aa.get_put,bE a W,jq a W,n1,n2,n3,this]
  done
 obtain⟨z,H',h1,rfl,xh',h2,h3⟩:=nN (f:=150) (by kernel_rfl) (by kernel_rfl) (by kernel_rfl) (by kernel_rfl) (by kernel_rfl) hgo;exact⟨H',xh',h1,h2,h3⟩
end
def YV(f g:FuncId):AV := .agg [.fn (.func f) [] [],.fn (.func g) [] []]
def xN:List AV:=[.tup [a8 1,YV 145 148],.tup [a8 2,YV 149 150],.tup [a8 3,YV 151 153]]
def Yb:ax env 84 []=some (.fsl 0 (.v (.bool true) :: xN) none):=FI (n:=400) (by kernel_rfl)
def YW(a:Bool)(dep:Nat)(H:aa)(d t g:Nat):bB env a (ax env) (cb env dep) H ⟨d,t,g,0⟩ (some (.fn (.func 84) [] [])) []=some (.mp ⟨d,t,g,0⟩,(⟨d,t,g,0⟩,some (ba xN)) :: H):=by
 have c:env.mode 84=1:=by kernel_rfl
 have e:([]++[]++[]:List AV)=[]:=rfl;have b:(pure []:Option (List AV))=some []:=rfl;simp only[bB,kW,c,e,GK,b,Yb];cases a<;>rfl
def Ht:Jp env.P 151=some (5,150):=by kernel_rfl
def abS{g:cF}{r:Ref}(h:g r=some (ba xN)):fe env.P g 151 (some (.mp r)) (some (a8 1)) false=some (YV 145 148,[]):=by
 have b:kE g r=some xN:=by unfold kE;rw[h];rfl
 have a:im (a8 1)=some (.int .u8 1):=by kernel_rfl
 simp only[fe,Ht,eJ,a,b];show _=_;kernel_rfl
def abR{g:cF}{r:Ref}(h:g r=some (ba xN)):fe env.P g 151 (some (.mp r)) (some (a8 2)) false=some (YV 149 150,[]):=by
 have b:kE g r=some xN:=by unfold kE;rw[h];rfl
 have a:im (a8 2)=some (.int .u8 2):=by kernel_rfl
 simp only[fe,Ht,eJ,a,b];show _=_;kernel_rfl
def abQ{g:cF}{r:Ref}(h:g r=some (ba xN)):fe env.P g 151 (some (.mp r)) (some (a8 3)) false=some (YV 151 153,[]):=by
 have b:kE g r=some xN:=by unfold kE;rw[h];rfl
 have a:im (a8 3)=some (.int .u8 3):=by kernel_rfl
 simp only[fe,Ht,eJ,a,b];show _=_;kernel_rfl
def iJ.grow{z:Nat}{es':List AV}{H H':aa}{h:za}(f:iJ z es' H h)(g:cf H H'):iJ z es' H' h:=f.aX λq _ c e=>g.old q c e
def lI.grow{H H':aa}{rb rs ru:Ref}{j d:za}{us0:List Clear}{qs:List ak}{gr0:Int}{b:gR}(h:lI H rb rs ru j d us0 qs gr0 b)(g:cf H H'):lI H' rb rs ru j d us0 qs gr0 b:=by
 obtain⟨i,o,p,f,e,q,k,m,u,c,n⟩:=h.box;exact⟨⟨i,o,p,f,e,q,g.old _ _ k,m,u,c.grow g,n.grow g⟩,g.old _ _ h.ses,g.old _ _ h.use,h.cD.grow g,h.out,h.one,h.sep⟩
structure OD (H0 H:aa) (rb rs ru rk:Ref) (j d:za) (us0:List Clear) (qs:List ak) (gr0:Int) (b:gR) (a:List (cN × AV)):Prop where
 g:cf H0 H
 bk:lI H rb rs ru j d us0 qs gr0 b
 row:iJ 24 (fB a) H d
 out:Jw a
 YO : ∀q∈d.rs,H0.get q=none
 new : ∀q∈j.rs,H0.get q=none
 kd:H.get rk=some (ba xN)
 tt:rk≠rb/\rk≠rs/\rk≠ru/\rk ∉ j.rs/\rk ∉ d.rs
 sep:rb ∉ d.rs/\rs ∉ d.rs/\ru ∉ d.rs /\∀q∈d.rs,q ∉ j.rs
 nn:H0.get rb=none/\H0.get rs=none/\H0.get ru=none
section
variable{H0 H H':aa}{rb rs ru rk:Ref}{j d:za}{us0:List Clear}{qs:List ak}{gr0:Int}{b:gR}{a:List (cN × AV)}(h:OD H0 H rb rs ru rk j d us0 qs gr0 b a)
include h
theorem OD.grow(g:cf H H'):OD H0 H' rb rs ru rk j d us0 qs gr0 b a:=
 ⟨h.g.trans g,h.bk.grow g,h.row.grow g,h.out,h.YO,h.new,g.old _ _ h.kd,h.tt,h.sep,h.nn⟩
theorem OD.ne{q:Ref}{c:aQ}(f:H0.get q=some c):q≠rb/\q≠rs/\q≠ru/\q ∉ j.rs/\q ∉ d.rs:=by
 obtain⟨n1,n2,n3⟩:=h.nn;refine⟨?_,?_,?_,?_,?_⟩;·rintro rfl;rw[n1]at f;cases f
 ·rintro rfl;rw[n2]at f;cases f
 ·rintro rfl;rw[n3]at f;cases f
 ·intro e;have:=h.new q e;rw[f]at this;cases this
 intro e;have:=h.YO q e;rw[f]at this;cases this
theorem OD.did{xh':za}{b':gR}(A:lI H' rb rs ru xh' d us0 qs gr0 b')(o:RP H H' rb rs ru j xh'):OD H0 H' rb rs ru rk xh' d us0 qs gr0 b' a:=by
 obtain⟨t1,t2,t3,t4,t5⟩:=h.tt;obtain⟨v,p,u,B⟩:=h.sep;have m : ∀q c,H0.get q=some c->H'.get q=some c/\q ∉ xh'.rs:=by
  intro q c f;obtain⟨z,y,E,x,_⟩:=h.ne f;exact o.old q c (h.g.old q c f) z y E x
 have k : ∀q∈d.rs,∀c,H.get q=some c->H'.get q=some c/\q ∉ xh'.rs:=λq f c i=>
  o.old q c i (λe=>v (by rw[<-e];exact f)) (λe=>p (by rw[<-e];exact f)) (λe=>u (by rw[<-e];exact f)) (B q f)
 have n:=o.old rk _ h.kd t1 t2 t3 t4;refine⟨⟨o.fr,λq c f=>(m q c f).1⟩,A,h.row.aX λq f c i=>(k q f c i).1,h.out,h.YO,λq e=>?_,n.1,⟨t1,t2,t3,n.2,t5⟩,⟨v,p,u,λq f=>?_⟩,h.nn⟩
 ·cases w:H0.get q with| none=>rfl| some c=>exact absurd e (m q c w).2
 obtain⟨c,i⟩:=h.row.live q f;exact(k q f c i).2
theorem OD.put{m:za}{f:List (cN × AV)}(K:Fr H')(F:iJ 24 (fB f) H' m)(S:Jw f)
 (A : ∀p u v o,H.get rb=some ⟨10,[.agg [p,u,aI gr0,v,o,aI b.gr,d.x,.mp rs,.mp ru,j.x]],false,false⟩->H'.get rb=some ⟨10,[.agg [p,u,aI gr0,v,o,aI b.gr,m.x,.mp rs,.mp ru,j.x]],false,false⟩)
 (k : ∀q c,H.get q=some c->(q ∉ d.rs->q ∉ m.rs)/\(q≠rb->q ∉ d.rs->H'.get q=some c)):OD H0 H' rb rs ru rk j m us0 qs gr0 b f:=by
 obtain⟨t1,t2,t3,t4,t5⟩:=h.tt;obtain⟨V,B,G,T⟩:=h.sep;obtain⟨p,u,v,o,M,N,z,O,U,L,P⟩:=h.bk.box;have J : ∀q c,H.get q=some c->c.gJ=true->H'.get q=some c:=by
  intro q c i y;refine(k q c i).2 ?_ ?_;·rintro rfl;rw[z]at i;cases i;exact absurd y (by simp)
  intro e;rw[h.row.gJ q e c i]at y;cases y
 have E : ∀q∈j.rs,q ∉ d.rs:=λq i n=>T q n i;refine⟨⟨K,λq c i=>?_⟩,⟨⟨p,u,v,o,M,N,A _ _ _ _ z,O,U,L.aX J,P.aX J⟩,(k _ _ h.bk.ses).2 h.bk.sep.1.symm B,(k _ _ h.bk.use).2 h.bk.sep.2.1.symm G,?_,h.bk.out,F.one,h.bk.sep⟩,F,S,λq e=>?_,h.new,(k _ _ h.kd).2 t1 t5,⟨t1,t2,t3,t4,(k _ _ h.kd).1 t5⟩,⟨(k _ _ z).1 V,(k _ _ h.bk.ses).1 B,(k _ _ h.bk.use).1 G,λq i I=>?_⟩,h.nn⟩;·obtain⟨n1,n2,n3,W,R⟩:=h.ne i;exact(k q c (h.g.old q c i)).2 n1 R
 ·exact h.bk.cD.aX λq i c w=>(k q c w).2 (λe=>h.bk.sep.2.2.2.1 (by rw[<-e];exact i)) (E q i)
 ·cases n:H0.get q with| none=>rfl| some c=>exact absurd e ((k q c (h.g.old q c n)).1 (h.ne n).2.2.2.2)
 obtain⟨c,w⟩:=h.bk.cD.live q I;exact(k q c w).1 (E q I) i
end
def Cb{f:FuncId}(e:(env.mode f == 2)=true){dep:Nat}{H H':aa}{r:Ref}{first args captured:List AV}{y:AV}{K:AV->aa->Prop}{m:Mk K}
 (h:cb env dep (.fn f) (first++args++captured) H=some (y,H')) (c:K y H') :
 lE (bB env true (ax env) (cb env dep) H r (some (.fn (.func f) first captured)) args) K m:=by
 refine tL (v:=y) (H:=H') ?_ c;rw[Fb e];exact h
def U1(r:cN)(D:r.op.l.length<1000000):ax env 161 [r.val (ep 1 (rows r.op.l))]=some (r.val (oP 1 (rows r.op.l))):=by
 obtain⟨k,u,⟨G,⟨z,a_3,B⟩,A,⟨⟨⟨I,F,x⟩,E⟩,n⟩,⟨⟨q,i,p⟩,m⟩,⟨e,f⟩,l⟩,c,g,v,w,o⟩:=r;have K:=Q1 G z a_3 B A I F x E n q i p m e f D;have L:=(gT 1 (rows l)).r;refine ay rfl (by kernel_rfl) (Hd _ _ _ λg=>?_);unfold cN.val;by_cases J:rows l=[];·rw[J]at K L ⊢;rw[show ep 1 ([]:List AV)=bI from rfl,Nf]at *;simp[ai, *,wc]
 rw[pe 1 J]at *;generalize ep 1 (rows l)=y at *;generalize rows l=rw' at *;simp[ai, *,wc]
def Fz(k:UInt8)(u:Int)(G:UInt8)(z:UInt8)(a_3:UInt32)(B:UInt8)(A:Int)(I:UInt8)(F:UInt32)(y:UInt8)(E:Int)(m:Int)(q:UInt8)(g:UInt32)(n:UInt8)(i:Int)(e:UInt8)(f:UInt32)(c L:Int)(v:UInt8)(w:UInt32)(o:Bool){x:AV}{J:List Int}(C:Sl 1 (rows J) x)(K:J.length<1000000) :
 ax env 82 [.agg [a8 k,aI u,a8 G,a8 z,af a_3,a8 B,aI A,a8 I,af F,a8 y,aI E,aI m,a8 q,af g,a8 n,aI i,a8 e,af f,x,aI c,aI L,a8 v,af w,aB o]]=some (aI (if eu ⟨k,u,(⟨G,⟨z,a_3,B⟩,A,⟨⟨⟨I,F,y⟩,E⟩,m⟩,⟨⟨q,g,n⟩,i⟩,⟨e,f⟩,J⟩:aw),c,L,v,w,o⟩ then 0 else 8)):=Pq (p:=(⟨k,u,(⟨G,⟨z,a_3,B⟩,A,⟨⟨⟨I,F,y⟩,E⟩,m⟩,⟨⟨q,g,n⟩,i⟩,⟨e,f⟩,J⟩:aw),c,L,v,w,o⟩,x)) ⟨C,K⟩
section
variable{l:List (cN × AV)}{t:AV}(C:Sl 24 (bW l) t)(D:l.length<10000){H0:aa}{Q:AV->aa->Prop}{dep:Nat}{rb rs ru rk:Ref}{us0:List Clear}{qs:List ak}{gr0:Int}
include C D
theorem Lj{i:Nat}(hi:i<l.length){H:aa}{j d:za}{b b':gR}{a:List (cN × AV)}(hI:OD H0 H rb rs ru rk j d us0 qs gr0 b a)(hrl:a.length<=10000){fi fd:FuncId}(hm1:(env.mode fi == 2)=true)(hm2:(env.mode fd == 2)=true)
 (k:UInt8) (u:Int) (S:UInt8) (K:UInt8) (a_3:UInt32) (R:UInt8) (O:Int) (N:UInt8) (M:UInt32) (U:UInt8) (L:Int) (I:Int) (J:UInt8) (F:UInt32) (m:UInt8) (f:Int) (G:UInt8) (E:UInt32) (c g1:Int) (v:UInt8) (w:UInt32) (o:Bool) {V:List Int} (hal:V.length<1000000) (hrd:bL (bW l) i 0 24 true=some (.agg [a8 k,aI u,a8 S,a8 K,af a_3,a8 R,aI O,a8 N,af M,a8 U,aI L,aI I,a8 J,af F,a8 m,aI f,a8 G,af E,ep 1 (rows V),aI c,aI g1,a8 v,af w,aB o]))
 (hlook : ∀g:cF,g rk=some (ba xN)->fe env.P g 151 (some (.mp rk)) (some (a8 k)) false=some (YV fi fd,[])) (his:eu ⟨k,u,(⟨S,⟨K,a_3,R⟩,O,⟨⟨⟨N,M,U⟩,L⟩,I⟩,⟨⟨J,F,m⟩,f⟩,⟨G,E⟩,V⟩:aw),c,g1,v,w,o⟩=true) {ft:Bool}
 (hfit : ∀H',OD H0 H' rb rs ru rk j d us0 qs gr0 b a ->∃H'',cb env (dep+1) (.fn fi) [.ptr rb 0 0,.agg [a8 k,aI u,a8 S,a8 K,af a_3,a8 R,aI O,a8 N,af M,a8 U,aI L,aI I,a8 J,af F,a8 m,aI f,a8 G,af E,ep 1 (rows V),aI c,aI g1,a8 v,af w,aB o]] H'=some (aB ft,H'')/\cf H' H'')
 (hdo:ft=true ->∀H',OD H0 H' rb rs ru rk j d us0 qs gr0 b a ->∃H'' xh',cb env (dep+1) (.fn fd) [.ptr rb 0 0,.agg [a8 k,aI u,a8 S,a8 K,af a_3,a8 R,aI O,a8 N,af M,a8 U,aI L,aI I,a8 J,af F,a8 m,aI f,a8 G,af E,ep 1 (rows V),aI c,aI g1,a8 v,af w,aB o]] H'=some (.v (.tuple #[]),H'')/\lI H'' rb rs ru xh' d us0 qs gr0 b'/\RP H' H'' rb rs ru j xh')
 (hno:ft=false ->∀H',cf H0 H'->Q (.tup [.v (.pointer none),.v (.bool false)]) H')
 (hyes:ft=true ->∀H' xh' X,OD H0 H' rb rs ru rk xh' X us0 qs gr0 b' (a++[(⟨k,u,(⟨S,⟨K,a_3,R⟩,O,⟨⟨⟨N,M,U⟩,L⟩,I⟩,⟨⟨J,F,m⟩,f⟩,⟨G,E⟩,V⟩:aw),c,g1,v,w,o⟩,ep 1 (rows V))])->bu env Tryz.f100 (dep+1) k9 [(28,aI ((i:Int)+1)),(6,.ptr rb 0 0),(7,.mp rk),(26,t),(27,aI l.length)] H' Q) :
 bu env Tryz.f100 (dep+1) k9 [(28,aI i),(6,.ptr rb 0 0),(7,.mp rk),(26,t),(27,aI l.length)] H Q:=by
 have hF:=hI.g.fr;have e3:=iQa ((i:Int)+1) (by omega);have hlt':(i:Int)<l.length:=by omega
 have hax:=gT 1 (rows V);have hC:=Fz k u S K a_3 R O N M U L I J F m f G E c g1 v w o hax hal;rw[his]at hC;have hg1 : ∀b1:aQ,cf H ((⟨dep+1,9,H.gen (dep+1) 9,0⟩,some b1) :: H):=λb1=>cf.cons hF _ _ _;have hI1:=λb1=>hI.grow (hg1 b1);have hkd:=hI.kd;have lk:(H.get rk).isSome=true:=by rw[hkd];rfl
 refine vw _ _ _ _ _ _ _ _ λg=>?_;simp[ai, *,sG,C.r,C.idx,hax.r,YV];refine nE hm1 (hfit _ (hI1 _)) λH4 hG=>?_;have hI4:=(hI1 _).grow hG;have hb9:=hG.old ⟨dep+1,9,H.gen (dep+1) 9,0⟩ _ (by simp;rfl);have hkd4:=hI4.kd;cases ft with
 | false=>have hfin:=hno rfl _ hI4.g;simp;exact hfin
 | true=>
  have hl4:=hlook _ hkd4;obtain⟨H5,xh',e1,e2,e4⟩:=hdo rfl H4 hI4;have hI5:=hI4.did e2 e4;have n9:(⟨dep+1,9,H.gen (dep+1) 9,0⟩:Ref) ∉ j.rs:=hI.bk.cD.Jy (eH hF _ _ _);obtain⟨vu,vq,wu',wq',ww1,ww2,hb0,_⟩:=hI.bk.box;have b9:=(e4.old _ _ hb9 (nB hF (by rw[hb0];rfl) _ _ _) (nB hF (by rw[hI.bk.ses];rfl) _ _ _) (nB hF (by rw[hI.bk.use];rfl) _ _ _) n9).1;clear hb0;obtain⟨xu,xq,yu,yq,wu,wq,f1,f2,f3,f4,f5⟩:=e2.box;have c4:=f4.s.cells;have c5:=f5.s.cells;have c8:=e2.cD.one;have Y:=e4.fr;have l5:(H5.get rb).isSome=true:=by rw[f1];rfl
  have l9:(H5.get ⟨dep+1,9,H.gen (dep+1) 9,0⟩).isSome=true:=by rw[b9];rfl
  have hT:=U1 ⟨k,u,(⟨S,⟨K,a_3,R⟩,O,⟨⟨⟨N,M,U⟩,L⟩,I⟩,⟨⟨J,F,m⟩,f⟩,⟨G,E⟩,V⟩:aw),c,g1,v,w,o⟩ hal;simp only[cN.val]at hT;have hbx : ∀(X:za)(H':aa),H'.get rb=some ⟨10,[.agg [xu,xq,aI gr0,yu,yq,aI b'.gr,X.x,.mp rs,.mp ru,xh'.x]],false,false⟩ ->∀xu xq yu yq,H5.get rb=some ⟨10,[.agg [xu,xq,aI gr0,yu,yq,aI b'.gr,d.x,.mp rs,.mp ru,xh'.x]],false,false⟩->H'.get rb=some ⟨10,[.agg [xu,xq,aI gr0,yu,yq,aI b'.gr,X.x,.mp rs,.mp ru,xh'.x]],false,false⟩:=(by intro X H' h xu' xq' yu' yq' h';rw[f1]at h';simp only[dG,aQ.mk.injEq,Ah,AV.agg.injEq,iQv,iQo]at h';obtain⟨rfl,rfl,rfl,rfl⟩:=h';exact h);have hro:=hI5.row;have hor:=hI5.out;have c9:=e2.one;have srb:=hI5.sep.1;have n9r:(⟨dep+1,9,H.gen (dep+1) 9,0⟩:Ref) ∉ d.rs:=hI.row.Jy (eH hF _ _ _);have hel:(fB a).length=a.length:=yF a;have hQ : ∀(H':aa)(X:za),Fr H'->iJ 24 (fB a++[.agg (I8 ⟨k,u,(⟨S,⟨K,a_3,R⟩,O,⟨⟨⟨N,M,U⟩,L⟩,I⟩,⟨⟨J,F,m⟩,f⟩,⟨G,E⟩,V⟩:aw),c,g1,v,w,o⟩++oP 1 (rows V) :: I7 ⟨k,u,(⟨S,⟨K,a_3,R⟩,O,⟨⟨⟨N,M,U⟩,L⟩,I⟩,⟨⟨J,F,m⟩,f⟩,⟨G,E⟩,V⟩:aw),c,g1,v,w,o⟩)]) H' X ->
   H'.get rb=some ⟨10,[.agg [xu,xq,aI gr0,yu,yq,aI b'.gr,X.x,.mp rs,.mp ru,xh'.x]],false,false⟩->(∀q c,H5.get q=some c->(q ∉ d.rs->q ∉ X.rs)/\(q≠rb->q ∉ d.rs->H'.get q=some c)) ->
   bu env Tryz.f100 (dep+1) k9 [(28,aI ((i:Int)+1)),(6,.ptr rb 0 0),(7,.mp rk),(26,t),(27,aI l.length)] H' Q:=
   λH' X a1 a2 a5 a6=>hyes rfl _ _ _ (hI5.put a1 (by
    have e:fB (a++[(⟨k,u,(⟨S,⟨K,a_3,R⟩,O,⟨⟨⟨N,M,U⟩,L⟩,I⟩,⟨⟨J,F,m⟩,f⟩,⟨G,E⟩,V⟩:aw),c,g1,v,w,o⟩,ep 1 (rows V))])=fB a++[.agg (I8 ⟨k,u,(⟨S,⟨K,a_3,R⟩,O,⟨⟨⟨N,M,U⟩,L⟩,I⟩,⟨⟨J,F,m⟩,f⟩,⟨G,E⟩,V⟩:aw),c,g1,v,w,o⟩++oP 1 (rows V) :: I7 ⟨k,u,(⟨S,⟨K,a_3,R⟩,O,⟨⟨⟨N,M,U⟩,L⟩,I⟩,⟨⟨J,F,m⟩,f⟩,⟨G,E⟩,V⟩:aw),c,g1,v,w,o⟩)]:=(by simp[fB]);rw[e];exact a2) (λp hp=>by
    rcases iN.1 hp with hp | hp
    ·exact hor p hp
    rw[nc.1 hp]) (hbx _ _ a5) a6)
  have hal2:(rows V).length=V.length:=(by simp);have hxr:=hax.r;clear hyes hbx hno hfit hdo hlook hI hI1 hI4 hI5 e2 e4 f4 f5 hC his hg1 hkd hkd4 hrd hor;generalize fB a=eo at *;generalize a.length=nh at *;replace hQ:=PLift.up hQ;simp[hb9,hl4,YV];refine Cb hm2 e1 ?_;clear e1 hl4 hb9 hG;by_cases he:rows V=[]
  ·have z1:ep 1 (rows V)=bI:=by rw[he];rfl
   have z2:oP 1 (rows V)=bI:=by rw[he];rfl
   rw[z1]at hT hxr b9;rw[z2]at hT;clear z1 z2;simp[ai, *,b9,f1,hT,iB,lL,fC,nV];refine iJ.app (T:=26) (z:=24) (by':=160) (by kernel_rfl) (by kernel_rfl) ?_ (hro.aX ?_) (A:=I8 ⟨k,u,(⟨S,⟨K,a_3,R⟩,O,⟨⟨⟨N,M,U⟩,L⟩,I⟩,⟨⟨J,F,m⟩,f⟩,⟨G,E⟩,V⟩:aw),c,g1,v,w,o⟩) (B:=I7 ⟨k,u,(⟨S,⟨K,a_3,R⟩,O,⟨⟨⟨N,M,U⟩,L⟩,I⟩,⟨⟨J,F,m⟩,f⟩,⟨G,E⟩,V⟩:aw),c,g1,v,w,o⟩) (rw':=rows V) (y:=bI) rfl rfl ?_ rfl (by decide) rfl ?_ (dp:=dep+1) (t1:=61) ?_ λH2 h2 hF2 hR2 k2 m2 n2=>?_;·simp(maxDischargeDepth:=12) [fN, *]
   ·intro q W cc hc;have lq:(H5.get q).isSome=true:=by rw[hc];rfl
    simp[bE Y lq,hc]
   ·exact .inl ⟨rfl,he⟩
   ·rw[hel];show(_+1) * 160<=140737488355328;omega
   ·simp
   have Z : ∀q c,H5.get q=some c->q ∉ d.rs->H2.get q=some c:=λq c W hn=>k2 q c (by
    have lq:(H5.get q).isSome=true:=by rw[W];rfl
    simp[bE Y lq,W]) λn e=>hn (hro.head e)
   have gb:=Z rb _ f1 srb;have gin : ∀q c,H5.get q=some c->q ∉ d.rs->q ∉ h2.rs:=λq c W hn hm=>by
    have lq:(H5.get q).isSome=true:=by rw[W];rfl
    rcases m2 q hm with h | ⟨n,c',h⟩ | h
    ·exact hn h
    ·first | (cases h;done) | (cases h;exact absurd W (by rw[eH Y];simp))
    simp[bE Y lq,W]at h
   have nb:=gin rb _ f1 srb;have q1:(H2.get rb).isSome=true:=by rw[gb];rfl
   have hc2:=hR2.one;clear k2 m2 n2;simp[ai, *,iB,lL,fC,nV];refine hQ.down _ h2 ?_ (hR2.aX λq W cc hc=>?_) ?_ λq cc W=>⟨gin q cc W,λn1 n2=>?_⟩;·simp(maxDischargeDepth:=12) [fN, *]
   ·have e1:q≠rb:=λe=>nb (e ▸ W);simp[aa.get_put,e1,hc]
   ·simp[aa.get_put]
   have:=Z q cc W n2;simp[aa.get_put,n1,this]
  rw[qv 1 he]at hT hxr b9;rw[pe 1 he]at hT;simp[ai, *,b9,f1,hT,iB,lL,fC,nV];refine iJ.app (T:=26) (z:=24) (by':=160) (by kernel_rfl) (by kernel_rfl) ?_ (hro.aX ?_) (A:=I8 ⟨k,u,(⟨S,⟨K,a_3,R⟩,O,⟨⟨⟨N,M,U⟩,L⟩,I⟩,⟨⟨J,F,m⟩,f⟩,⟨G,E⟩,V⟩:aw),c,g1,v,w,o⟩) (B:=I7 ⟨k,u,(⟨S,⟨K,a_3,R⟩,O,⟨⟨⟨N,M,U⟩,L⟩,I⟩,⟨⟨J,F,m⟩,f⟩,⟨G,E⟩,V⟩:aw),c,g1,v,w,o⟩) (rw':=rows V) (y := .bN ⟨dep+1,60,H5.gen (dep+1) 60,0⟩ 0 V.length none) rfl rfl ?_ rfl (by decide) rfl ?_ (dp:=dep+1) (t1:=61) ?_ λH2 h2 hF2 hR2 k2 m2 n2=>?_;·simp(maxDischargeDepth:=12) [fN, *]
  ·intro q W cc hc;have lq:(H5.get q).isSome=true:=by rw[hc];rfl
   simp[bE Y lq,hc]
  ·exact .inr ⟨he,⟨dep+1,60,H5.gen (dep+1) 60,0⟩,by rw[hal2],by simp,hro.Jy (eH Y _ _ _)⟩
  ·rw[hel];show(_+1) * 160<=140737488355328;omega
  ·simp
  have Z : ∀q c,H5.get q=some c->q ∉ d.rs->H2.get q=some c:=λq c W hn=>k2 q c (by
   have lq:(H5.get q).isSome=true:=by rw[W];rfl
   simp[bE Y lq,W]) λn e=>hn (hro.head e)
  have gb:=Z rb _ f1 srb;have gin : ∀q c,H5.get q=some c->q ∉ d.rs->q ∉ h2.rs:=λq c W hn hm=>by
   have lq:(H5.get q).isSome=true:=by rw[W];rfl
   rcases m2 q hm with h | ⟨n,c',h⟩ | h
   ·exact hn h
   ·first | (cases h;done) | (cases h;exact absurd W (by rw[eH Y];simp))
   simp[bE Y lq,W]at h
  have nb:=gin rb _ f1 srb;have q1:(H2.get rb).isSome=true:=by rw[gb];rfl
  have hc2:=hR2.one;clear k2 m2 n2;simp[ai, *,iB,lL,fC,nV];refine hQ.down _ h2 ?_ (hR2.aX λq W cc hc=>?_) ?_ λq cc W=>⟨gin q cc W,λn1 n2=>?_⟩;·simp(maxDischargeDepth:=12) [fN, *]
  ·have e1:q≠rb:=λe=>nb (e ▸ W);simp[aa.get_put,e1,hc]
  ·simp[aa.get_put]
  have:=Z q cc W n2;simp[aa.get_put,n1,this]
end
def w8(us0:List Clear)(qs:List ak)(gr0:Int)(b:gR)(r:cN):Bool:=if r.kind=1 then FN us0 qs gr0 b r else if r.kind=2 then DV us0 qs gr0 b r else FM qs b r
def OH(b:gR)(p:cN × AV):gR:=if p.1.kind=1 then CM b p.1.op p.1.user else if p.1.kind=2 then uB b p.1.op p.1.code (Am p.2) else D4 b p.1.gu p.1.gv p.1.gc p.1.gok
def V0(us0:List Clear)(qs:List ak)(gr0:Int):gR->List (cN × AV)->Option gR
 | b,[]=>some b
 | b,p :: l=>if eu p.1=true/\w8 us0 qs gr0 b p.1=true then V0 us0 qs gr0 (OH b p) l else none
def Hp(es:List AV):Am (ep 1 es)=ep 1 es:=by
 cases es<;>rfl
def X7{l:List Int}{x:AV}(f:Sl 1 (rows l) x):Sl 1 (rows l) (Am x):=by
 rcases f with ⟨rfl,h⟩ | ⟨c,rfl,h⟩
 ·exact .inl ⟨rfl,h⟩
 by_cases b:rows l=[];·rw[b];exact .inr ⟨some 0,rfl,by simp⟩
 rw[Uu 1 c b];exact Sl.mk _ _
def TW(p:cN × AV):cN × AV:=(p.1,Am p.2)
def Oa(b:gR)(p:cN × AV):(OH b p).cD.length<=b.cD.length+1:=by
 unfold OH CM uB D4;repeat' split
 all_goals simp
def acE{b:gR}(h:uP b){p:cN × AV}(hp:DG p)(n:b.cD.length+1<10000):uP (OH b p):=by
 have k:=Oa b p;unfold OH at k ⊢;split at k;·rename_i k1;rw[if_pos k1];refine⟨Dn (P:=λx =>∃s:BT,x=s.av) ⟨_,rfl⟩ h.ses,Dn (P:=λx =>∃s:Az,x=s.av) ⟨_,rfl⟩ h.used,h.cD,by omega,h.few⟩
 rename_i k1;rw[if_neg k1];split at k
 ·rename_i g;rw[if_pos g];refine⟨Dn (P:=λx =>∃s:BT,x=s.av) ⟨_,rfl⟩ h.ses,Dn (P:=λx =>∃s:Az,x=s.av) ⟨_,rfl⟩ h.used,?_,by omega,h.few⟩;intro q c;unfold uB at c;simp only at c;split at c
  ·rcases iN.1 c with c | c
   ·exact h.cD q c
   rw[nc]at c;subst c;exact⟨⟨X7 hp.1,by have:=hp.2;simp only;omega⟩,hp.2⟩
  exact h.cD q c
 rename_i g;rw[if_neg g];exact⟨h.ses,h.used,h.cD,by omega,by show(b.us.set _ _).length<_;rw[Kx];exact h.few⟩
def I1(H0:aa)(us0:List Clear)(qs:List ak)(gr0:Int)(c:List (cN × AV))(o:Option gR)(y:AV)(H:aa):Prop:=match o with
 | none=>y = .tup [.v (.pointer none),aB false]/\cf H0 H
 | some b =>∃rb rs ru rk g h,y = .tup [.ptr rb 0 0,aB true]/\OD H0 H rb rs ru rk g h us0 qs gr0 b c/\uP b
section
variable{l:List (cN × AV)}{j:AV}(f:Sl 24 (bW l) j)(m:l.length<=2048)(a : ∀p∈l,DG p)(i:Jw l){H0:aa}{Q:AV->aa->Prop}{dep:Nat}{rb rs ru rk:Ref}{us0:List Clear}{qs:List ak}{gr0:Int}(e:us0.length<1000000)(d:qs.length<1000000)
include f m a i e d
theorem YL : ∀(s:List (cN × AV)) (k:Nat) (b:gR) (R:List (cN × AV)) (H:aa) (xh xr:za),l.drop k=s->k<=l.length->R=(l.take k).map TW->uP b->b.cD.length<=k->OD H0 H rb rs ru rk xh xr us0 qs gr0 b R ->
 (∀y H',I1 H0 us0 qs gr0 (l.map TW) (V0 us0 qs gr0 b s) y H'->Q y H') ->
 bu env Tryz.f100 (dep+1) k9 [(28,aI k),(6,.ptr rb 0 0),(7,.mp rk),(26,j),(27,aI l.length)] H Q:=by
 intro s;induction s with
 | nil=>rintro k b R H xh xr hs hk hr hok hm hI hQ;obtain rfl:=drop_nil hs hk;rw[AT]at hr;subst hr;have V:=hQ _ H ⟨rb,rs,ru,rk,xh,xr,rfl,hI,hok⟩;refine vw _ _ _ _ _ _ _ _ λg=>?_;clear hQ hI a;simp[ai, *,sG];all_goals exact V
 | cons p s ih=>
  rintro k b R H xh xr hs hk hr hok hm hI hQ;obtain⟨W,hg,hs',hg'⟩:=drop_cons hs;have hp:=a p (hg ▸ je W);have hpo:=i p (hg ▸ je W);have htw:TW p=p:=by unfold TW;rw[hpo,Hp,<-hpo]
  have hok':=acE hok hp (by omega);have hm':=Oa b p;have hrl:R.length<=10000:=by rw[hr];simp;omega
  have hr':R++[p]=(l.take (k+1)).map TW:=(by rw[hr,Ev,hg'];simp[htw]);have Z:=λ(hd:eu p.1=true/\w8 us0 qs gr0 b p.1=true) H' xh' U h=>ih (k+1) (OH b p) _ H' xh' U hs' (by omega) hr' hok' (by omega) h (λy H1 hA=>hQ y H1 (by show I1 _ _ _ _ _ (if _ then _ else _) _ _;rw[if_pos hd];exact hA));have X : ¬(eu p.1=true/\w8 us0 qs gr0 b p.1=true) ->∀H',cf H0 H'->Q (.tup [.v (.pointer none),aB false]) H':=λhd H' hG=>hQ _ H' (by show I1 _ _ _ _ _ (if _ then _ else _) _ _;rw[if_neg hd];exact⟨rfl,hG⟩);obtain⟨⟨k1,u,⟨G,⟨D,a_3,F⟩,E,⟨⟨⟨J,L,I⟩,K⟩,A⟩,⟨⟨C,q,B⟩,t⟩,⟨z,n⟩,O⟩,c,N,v,w,o⟩,x⟩:=p;obtain⟨S,T⟩:=hp;simp only at S T hpo;subst hpo;clear htw;have hrd:bL (bW l) k 0 24 true=some (.agg [a8 k1,aI u,a8 G,a8 D,af a_3,a8 F,aI E,a8 J,af L,a8 I,aI K,aI A,a8 C,af q,a8 B,aI t,a8 z,af n,ep 1 (rows O),aI c,aI N,a8 v,af w,aB o]):=by simp[bW,hg',cN.val]
  have hlt':(k:Int)<l.length:=(by omega);cases P:eu ⟨k1,u,(⟨G,⟨D,a_3,F⟩,E,⟨⟨⟨J,L,I⟩,K⟩,A⟩,⟨⟨C,q,B⟩,t⟩,⟨z,n⟩,O⟩:aw),c,N,v,w,o⟩ with
  | false=>have hF:=hI.g.fr;have hC:=Fz k1 u G D a_3 F E J L I K A C q B t z n c N v w o S T;rw[P]at hC;have V:=λb1=>X (by rw[P];simp) _ ((hI.grow (cf.cons hF (dep+1) 9 b1)).g);refine vw _ _ _ _ _ _ _ _ λg=>?_;clear X Z ih hQ hI a P;simp[ai, *,sG,f.r,f.idx,S.r];all_goals exact V _
  | true=>
   by_cases e1:k1=1
   ·subst e1;have hf:w8 us0 qs gr0 b ⟨1,u,(⟨G,⟨D,a_3,F⟩,E,⟨⟨⟨J,L,I⟩,K⟩,A⟩,⟨⟨C,q,B⟩,t⟩,⟨z,n⟩,O⟩:aw),c,N,v,w,o⟩=FN us0 qs gr0 b ⟨1,u,(⟨G,⟨D,a_3,F⟩,E,⟨⟨⟨J,L,I⟩,K⟩,A⟩,⟨⟨C,q,B⟩,t⟩,⟨z,n⟩,O⟩:aw),c,N,v,w,o⟩:=rfl;refine Lj f (by omega) W hI hrl (fi:=145) (fd:=148) (b':=OH b (⟨1,u,(⟨G,⟨D,a_3,F⟩,E,⟨⟨⟨J,L,I⟩,K⟩,A⟩,⟨⟨C,q,B⟩,t⟩,⟨z,n⟩,O⟩:aw),c,N,v,w,o⟩,ep 1 (rows O))) (by kernel_rfl) (by kernel_rfl) 1 u G D a_3 F E J L I K A C q B t z n c N v w o T hrd (λg=>abS) P (ft:=FN us0 qs gr0 b ⟨1,u,(⟨G,⟨D,a_3,F⟩,E,⟨⟨⟨J,L,I⟩,K⟩,A⟩,⟨⟨C,q,B⟩,t⟩,⟨z,n⟩,O⟩:aw),c,N,v,w,o⟩)
     (λH' M=>ab4 (dep+1) M.g.fr M.bk.at hok e d 1 u G D a_3 F E J L I K A C q B t z n c N v w o S) ?_ ?_ ?_
    ·intro _ H' M;obtain⟨H2,e1,e2,Y⟩:=ab3 (dep+1) M.g.fr M.bk hok 1 u G D a_3 F E J L I K A C q B t z n c N v w o S;exact⟨H2,xh,e1,e2,Y⟩
    ·intro h H' hG;exact X (by rw[hf,h];simp) H' hG
    intro h H' xh' U h';exact Z ⟨P,by rw[hf];exact h⟩ H' xh' U h'
   by_cases e2:k1=2
   ·subst e2;have hf:w8 us0 qs gr0 b ⟨2,u,(⟨G,⟨D,a_3,F⟩,E,⟨⟨⟨J,L,I⟩,K⟩,A⟩,⟨⟨C,q,B⟩,t⟩,⟨z,n⟩,O⟩:aw),c,N,v,w,o⟩=DV us0 qs gr0 b ⟨2,u,(⟨G,⟨D,a_3,F⟩,E,⟨⟨⟨J,L,I⟩,K⟩,A⟩,⟨⟨C,q,B⟩,t⟩,⟨z,n⟩,O⟩:aw),c,N,v,w,o⟩:=rfl;refine Lj f (by omega) W hI hrl (fi:=149) (fd:=150) (b':=OH b (⟨2,u,(⟨G,⟨D,a_3,F⟩,E,⟨⟨⟨J,L,I⟩,K⟩,A⟩,⟨⟨C,q,B⟩,t⟩,⟨z,n⟩,O⟩:aw),c,N,v,w,o⟩,ep 1 (rows O))) (by kernel_rfl) (by kernel_rfl) 2 u G D a_3 F E J L I K A C q B t z n c N v w o T hrd (λg=>abR) P (ft:=DV us0 qs gr0 b ⟨2,u,(⟨G,⟨D,a_3,F⟩,E,⟨⟨⟨J,L,I⟩,K⟩,A⟩,⟨⟨C,q,B⟩,t⟩,⟨z,n⟩,O⟩:aw),c,N,v,w,o⟩)
     (λH' M=>ab2 (dep+1) M.g.fr M.bk.at hok e d 2 u G D a_3 F E J L I K A C q B t z n c N v w o S T) ?_ ?_ ?_
    ·intro _ H' M;by_cases hc:c=0
     ·subst hc;have hd:uB b (⟨G,⟨D,a_3,F⟩,E,⟨⟨⟨J,L,I⟩,K⟩,A⟩,⟨⟨C,q,B⟩,t⟩,⟨z,n⟩,O⟩:aw) 0 (ep 1 (rows O))=OH b (⟨2,u,(⟨G,⟨D,a_3,F⟩,E,⟨⟨⟨J,L,I⟩,K⟩,A⟩,⟨⟨C,q,B⟩,t⟩,⟨z,n⟩,O⟩:aw),0,N,v,w,o⟩,ep 1 (rows O)):=by
       show _=uB b (⟨G,⟨D,a_3,F⟩,E,⟨⟨⟨J,L,I⟩,K⟩,A⟩,⟨⟨C,q,B⟩,t⟩,⟨z,n⟩,O⟩:aw) 0 (Am (ep 1 (rows O)));rw[Hp]
      rw[<-hd];exact YX (dep+1) M.g.fr M.bk hok 2 u G D a_3 F E J L I K A C q B t z n N v w o T
     obtain⟨H2,e1,e2,Y⟩:=ab1 (dep+1) M.g.fr M.bk hok 2 u G D a_3 F E J L I K A C q B t z n c N v w o S hc;have hd:uB b (⟨G,⟨D,a_3,F⟩,E,⟨⟨⟨J,L,I⟩,K⟩,A⟩,⟨⟨C,q,B⟩,t⟩,⟨z,n⟩,O⟩:aw) c bI=OH b (⟨2,u,(⟨G,⟨D,a_3,F⟩,E,⟨⟨⟨J,L,I⟩,K⟩,A⟩,⟨⟨C,q,B⟩,t⟩,⟨z,n⟩,O⟩:aw),c,N,v,w,o⟩,ep 1 (rows O)):=by simp[OH,uB,hc,IM]
     rw[hd]at e2;exact⟨H2,xh,e1,e2,Y⟩
    ·intro h H' hG;exact X (by rw[hf,h];simp) H' hG
    intro h H' xh' U h';exact Z ⟨P,by rw[hf];exact h⟩ H' xh' U h'
   have Y:k1=3:=by
    by_cases Y:k1=3;·exact Y
    simp[eu,e1,e2,Y]at P
   subst Y;have hf:w8 us0 qs gr0 b ⟨3,u,(⟨G,⟨D,a_3,F⟩,E,⟨⟨⟨J,L,I⟩,K⟩,A⟩,⟨⟨C,q,B⟩,t⟩,⟨z,n⟩,O⟩:aw),c,N,v,w,o⟩=FM qs b ⟨3,u,(⟨G,⟨D,a_3,F⟩,E,⟨⟨⟨J,L,I⟩,K⟩,A⟩,⟨⟨C,q,B⟩,t⟩,⟨z,n⟩,O⟩:aw),c,N,v,w,o⟩:=rfl;refine Lj f (by omega) W hI hrl (fi:=151) (fd:=153) (b':=OH b (⟨3,u,(⟨G,⟨D,a_3,F⟩,E,⟨⟨⟨J,L,I⟩,K⟩,A⟩,⟨⟨C,q,B⟩,t⟩,⟨z,n⟩,O⟩:aw),c,N,v,w,o⟩,ep 1 (rows O))) (by kernel_rfl) (by kernel_rfl) 3 u G D a_3 F E J L I K A C q B t z n c N v w o T hrd (λg=>abQ) P (ft:=FM qs b ⟨3,u,(⟨G,⟨D,a_3,F⟩,E,⟨⟨⟨J,L,I⟩,K⟩,A⟩,⟨⟨C,q,B⟩,t⟩,⟨z,n⟩,O⟩:aw),c,N,v,w,o⟩)
    (λH' M=>ab0 (dep+1) M.g.fr M.bk.at hok e d 3 u G D a_3 F E J L I K A C q B t z n c N v w o S) ?_ ?_ ?_
   ·intro h H' M;obtain⟨H2,e1,e2,Y⟩:=abZ (dep+1) M.g.fr M.bk hok 3 u G D a_3 F E J L I K A C q B t z n c N v w o S d (by simpa [FM] using h);exact⟨H2,xh,e1,e2,Y⟩
   ·intro h H' hG;exact X (by rw[hf,h];simp) H' hG
   intro h H' xh' U h';exact Z ⟨P,by rw[hf];exact h⟩ H' xh' U h'
end
def Qs{f:FuncId}(h:(env.mode f == 2)=false)(l:Bool)(dep:Nat){H:aa}(r:Ref){args xs:List AV}(d:args.mapM (view H.get depth)=some xs)(g:bX H.get args=[]){y:AV}(k:ax env f xs=some y) :
 nO env l (ax env) (cb env dep) H r (some (.fn (.func f) [] [])) args=some ((aj r depth y []).1,keyed r 0 (Bn true (aj r depth y []).2) H):=by
 have c:env.mode f≠2:=by simpa using h
 have e:([]++args++[]:List AV)=args:=by simp
 unfold nO;simp only[kW,if_neg c,e,d,k,g];simp[kO,mE,Gb]
section
variable{m j:AV}{us:List Clear}{qs:List ak}{gr:Int}(b:Sl 3 (de us) m)(a:Sl 5 (cR qs) j)(i:us.length<1000000)(n:qs.length<1000000)
include b a i n
theorem aa3(dep d t:Nat){gg:Nat}{H:aa}(x:Fr H)(l:gg=H.gen d t) : ∃o p z u H',nO env false (ax env) (cb env dep) H ⟨d,t,gg,0⟩ (some (.fn (.func 160) [] [])) [.agg [m,j,aI gr]]=some (.agg [o,p,aI gr],H')/\cf H H'/\nw 3 (de us) H' o z/\nw 5 (cR qs) H' p u:=by
 subst l;have v:=QZ (gr:=gr) b a (by omega) (by omega);have A:=vY b;have y:=vY a;generalize sv m=o at *;generalize sv j=p at *;have w:=Qs (H:=H) (f:=160) (by kernel_rfl) false dep ⟨d,t,H.gen d t,0⟩ (args:=[.agg [m,j,aI gr]]) (by simp[b.r,a.r]) (by simp[b.r,a.r]) v;rw[w];have e : ∀(q:Ref)(c:aQ),H.get q=some c ->∀k,(⟨d,t,H.gen d t,k⟩:Ref)≠q:=by
  intro q c a k;have B:(H.get q).isSome=true:=by rw[a];rfl
  exact nB x B _ _ _
 rcases A with ⟨rfl,g⟩ | rfl | ⟨rfl,g⟩<;>rcases y with ⟨rfl,h⟩ | rfl | ⟨rfl,h⟩
 ·simp[aj,Bn,keyed];refine⟨bI,bI,bI,bI,_,⟨⟨by simp,by simp⟩,rfl⟩,⟨?_,λq c a=>?_⟩,.inl ⟨rfl,.inl ⟨rfl,g⟩⟩,.inl ⟨rfl,.inl ⟨rfl,h⟩⟩⟩;·simp(maxDischargeDepth:=12) [fN, *]
  simp[e q c a,a]
 ·simp[aj,Bn,keyed];refine⟨bI,.bN ⟨d,t,H.gen d t,0⟩ 0 (cR qs).length none,bI,.cC 5 (cR qs) none,_,⟨⟨by simp,by simp⟩,rfl⟩,⟨?_,λq c a=>?_⟩,.inl ⟨rfl,.inl ⟨rfl,g⟩⟩,.inr ⟨_,none,rfl,by simp,rfl,cH _⟩⟩;·simp(maxDischargeDepth:=12) [fN, *]
  simp[e q c a,a]
 ·simp[aj,Bn,keyed];refine⟨bI,.bN ⟨d,t,H.gen d t,0⟩ 0 0 (some 0),bI,.cC 5 (cR qs) (some 0),_,⟨⟨by simp,by simp⟩,rfl⟩,⟨?_,λq c a=>?_⟩,.inl ⟨rfl,.inl ⟨rfl,g⟩⟩,.inr ⟨_,some 0,by rw[h];rfl,by simp[h],rfl,by rw[h];simp⟩⟩;·simp(maxDischargeDepth:=12) [fN, *]
  simp[e q c a,a]
 ·simp[aj,Bn,keyed];refine⟨.bN ⟨d,t,H.gen d t,0⟩ 0 (de us).length none,bI,.cC 3 (de us) none,bI,_,⟨⟨by simp,by simp⟩,rfl⟩,⟨?_,λq c a=>?_⟩,.inr ⟨_,none,rfl,by simp,rfl,cH _⟩,.inl ⟨rfl,.inl ⟨rfl,h⟩⟩⟩;·simp(maxDischargeDepth:=12) [fN, *]
  simp[e q c a,a]
 ·simp[aj,Bn,keyed];refine⟨.bN ⟨d,t,H.gen d t,0⟩ 0 (de us).length none,.bN ⟨d,t,H.gen d t,1⟩ 0 (cR qs).length none,.cC 3 (de us) none,.cC 5 (cR qs) none,_,⟨⟨by simp,by simp⟩,rfl⟩,⟨?_,λq c a=>?_⟩,.inr ⟨_,none,rfl,by simp,rfl,cH _⟩,.inr ⟨_,none,rfl,by simp,rfl,cH _⟩⟩;·simp(maxDischargeDepth:=12) [fN, *]
  simp[e q c a,a]
 ·simp[aj,Bn,keyed];refine⟨.bN ⟨d,t,H.gen d t,0⟩ 0 (de us).length none,.bN ⟨d,t,H.gen d t,1⟩ 0 0 (some 0),.cC 3 (de us) none,.cC 5 (cR qs) (some 0),_,⟨⟨by simp,by simp⟩,rfl⟩,⟨?_,λq c a=>?_⟩,.inr ⟨_,none,rfl,by simp,rfl,cH _⟩,.inr ⟨_,some 0,by rw[h];rfl,by simp[h],rfl,by rw[h];simp⟩⟩;·simp(maxDischargeDepth:=12) [fN, *]
  simp[e q c a,a]
 ·simp[aj,Bn,keyed];refine⟨.bN ⟨d,t,H.gen d t,0⟩ 0 0 (some 0),bI,.cC 3 (de us) (some 0),bI,_,⟨⟨by simp,by simp⟩,rfl⟩,⟨?_,λq c a=>?_⟩,.inr ⟨_,some 0,by rw[g];rfl,by simp[g],rfl,by rw[g];simp⟩,.inl ⟨rfl,.inl ⟨rfl,h⟩⟩⟩;·simp(maxDischargeDepth:=12) [fN, *]
  simp[e q c a,a]
 ·simp[aj,Bn,keyed];refine⟨.bN ⟨d,t,H.gen d t,0⟩ 0 0 (some 0),.bN ⟨d,t,H.gen d t,1⟩ 0 (cR qs).length none,.cC 3 (de us) (some 0),.cC 5 (cR qs) none,_,⟨⟨by simp,by simp⟩,rfl⟩,⟨?_,λq c a=>?_⟩,.inr ⟨_,some 0,by rw[g];rfl,by simp[g],rfl,by rw[g];simp⟩,.inr ⟨_,none,rfl,by simp,rfl,cH _⟩⟩;·simp(maxDischargeDepth:=12) [fN, *]
  simp[e q c a,a]
 simp[aj,Bn,keyed];refine⟨.bN ⟨d,t,H.gen d t,0⟩ 0 0 (some 0),.bN ⟨d,t,H.gen d t,1⟩ 0 0 (some 0),.cC 3 (de us) (some 0),.cC 5 (cR qs) (some 0),_,⟨⟨by simp,by simp⟩,rfl⟩,⟨?_,λq c a=>?_⟩,.inr ⟨_,some 0,by rw[g];rfl,by simp[g],rfl,by rw[g];simp⟩,.inr ⟨_,some 0,by rw[h];rfl,by simp[h],rfl,by rw[h];simp⟩⟩;·simp(maxDischargeDepth:=12) [fN, *]
 simp[e q c a,a]
def Cn(us:List Clear)(gr:Int):gR:=⟨us,gr,[],[],[]⟩
def uF(us:List Clear)(qs:List ak)(gr:Int)(l:List (cN × AV)):Option gR:=if uj us qs gr=true/\l.length<=2048 then V0 us qs gr (Cn us gr) l else none
theorem abe{l:List (cN × AV)}{x1:AV}(D:Sl 24 (bW l) x1)(A : ∀p∈l,DG p)(F:Jw l)(dep:Nat){H:aa}(P:Fr H) :
 ∃y H',cb env dep (.fn 100) [.agg [m,j,aI gr],x1] H=some (y,H')/\I1 H us qs gr (l.map TW) (uF us qs gr l) y H':=by
 have J:bu env Tryz.f100 (dep+1) [.code LO] (uC 0 [.agg [m,j,aI gr],x1]) H λy H'=>I1 H us qs gr (l.map TW) (uF us qs gr l) y H':=by
  have O:=Dr (gr:=gr) b a (by omega) (by omega);have o : ∀b1:aQ,cf H ((⟨dep+1,2,H.gen (dep+1) 2,0⟩,some b1) :: H):=λb1=>cf.cons P _ _ _;refine KQ _ _ _ _ _ λg=>?_;have k : ¬(uj us qs gr=true/\l.length<=2048) ->∀H',cf H H'->I1 H us qs gr (l.map TW) (uF us qs gr l) (.tup [.v (.pointer none),aB false]) H':=λR H' C=>by
   unfold uF;rw[if_neg R];exact⟨rfl,C⟩
  cases hp:uj us qs gr with| false=>rw[hp]at O k;have e:=λb1=>k (by simp) _ (o b1);simp[ai, *,vc,D.r,b.r,a.r,bad];all_goals exact e _| true=>
   rw[hp]at O;by_cases G:l.length<=2048
   ·have I : ¬(2048:Int)<l.length:=(by omega);obtain⟨W,T,S,Y,d,Z,C,M,N⟩:=aa3 (gr:=gr) b a i n (dep+1) (dep+1) 20 (gg:=H.gen (dep+1) 20) (o ⟨3,[.agg [m,j,aI gr]],false,false⟩).fr (by simp);have u:=C.fr;have B:=(o _).trans C;have c1:=M.s.cells;have c2:=N.s.cells;have K:=λH=>YW true (dep+1) H (dep+1) 25;clear k;simp[ai, *,vc,D.r,b.r,a.r,bad,K];have E:uF us qs gr l=V0 us qs gr (Cn us gr) l:=by unfold uF;rw[if_pos ⟨hp,G⟩]
    refine YL (rb:=⟨dep+1,24,d.gen (dep+1) 24,0⟩) (rs:=⟨dep+1,21,d.gen (dep+1) 21,0⟩) (ru:=⟨dep+1,22,d.gen (dep+1) 22,0⟩) (rk:=⟨dep+1,25,d.gen (dep+1) 25,0⟩) (gr0:=gr) (dep:=dep) (H0:=H)
     (Q:=λy H'=>I1 H us qs gr (l.map TW) (uF us qs gr l) y H') D G A F i n l 0 (Cn us gr) [] _ ⟨bI,[]⟩ ⟨bI,[]⟩ rfl (by omega) rfl ⟨λp h=>(by cases h),λp h=>(by cases h),λp h=>(by cases h),(by simp[Cn]),(by simpa [Cn] using i)⟩ (by simp[Cn]) ?_ (λy H' h=>by rw[E];exact h)
    have x : ∀b1 b2 b3 L:aQ,cf d ((⟨dep+1,25,d.gen (dep+1) 25,0⟩,some L) :: (⟨dep+1,24,d.gen (dep+1) 24,0⟩,some b3) :: (⟨dep+1,22,d.gen (dep+1) 22,0⟩,some b2) :: (⟨dep+1,21,d.gen (dep+1) 21,0⟩,some b1) :: d):=λb1 b2 b3 L=>⟨by simp(maxDischargeDepth:=12) [fN, *],λq c a=>by
     have U:(d.get q).isSome=true:=by rw[a];rfl
     simp[bE u U,a]⟩
    have w : ∀t,H.get ⟨dep+1,t,d.gen (dep+1) t,0⟩=none:=λt=>by
     cases z:H.get ⟨dep+1,t,d.gen (dep+1) t,0⟩ with
     | none=>rfl
     | some c=>have:=B.old _ _ z;rw[eH u]at this;cases this
    refine⟨B.trans (x _ _ _ _),⟨⟨m,j,W,T,S,Y,?_,b,a,M.grow (x _ _ _ _),N.grow (x _ _ _ _)⟩,?_,?_,iJ.nil _ _,λp h=>(by cases h),⟨rfl,rfl⟩,?_⟩,iJ.nil _ _,λp h=>(by cases h),λr z=>(by cases z),λr z=>(by cases z),?_,?_,?_,⟨w _,w _,w _⟩⟩;·simp[Cn]
    ·simp[Cn,cJ]
    ·simp[Cn,cJ]
    ·simp
    ·simp
    ·simp
    simp
   have I:(2048:Int)<l.length:=(by omega);have e:=λb1=>k (by simp[G]) _ (o b1);simp[ai, *,vc,D.r,b.r,a.r,bad];all_goals exact e _
 obtain⟨y,H',V,X⟩:=nN (f:=100) (by kernel_rfl) (by kernel_rfl) (by kernel_rfl) (by kernel_rfl) (by kernel_rfl) J;exact⟨y,H',V,X⟩
end
def uQ(o:Option gR)(c:Int)(zero:AV)(R:gR->AV->aa->Prop)(y:AV)(H:aa):Prop:=match o with
 | none=>y = .tup [zero,aI 8]
 | some b=>if c=0 then R b y H else y = .tup [zero,aI c]
def KW{l:List (cN × AV)}(h:Jw l):l.map TW=l:=by
 have : ∀p∈l,TW p=id p:=λp hp=>by
  unfold TW;rw[h p hp,Hp,<-h p hp];rfl
 rw[Gv this,List.map_id]
def CG(z:Nat)(es':List AV):AV:=if es'=[] then bI else .nsl z es' none
def Nd(z:Nat)(es':List AV):TV z es' (CG z es'):=by
 unfold CG;split;·rename_i h;exact .inl ⟨rfl,h⟩
 rename_i h;exact .inr (.inr ⟨rfl,h⟩)
def J4(z:Nat)(es':List AV):Mx (CG z es')=ep z (es'.map A3):=by
 unfold CG;split;·rename_i h;subst h;rfl
 rename_i h;rw[qv z (by simpa using h)];rfl
def iJ.CG{z:Nat}{es':List AV}{H:aa}{h:za}(c:iJ z es' H h):Ga z h.x es'=CG z es':=by
 obtain⟨c,f⟩:=c;unfold Go.Proofs.YtmkmimgokagimaaGreat.CG;rcases c with ⟨e,b,_⟩ | ⟨r,e,he,_,_⟩ | ⟨r,es,e,b,_,o,_⟩
 ·rw[e,b];rfl
 ·rw[f he]at e;cases e
 rw[e,if_neg (λg=>by
  have:=o.len;rw[g]at this;exact b (Fu.1 this))]
 rfl
def HO{f:FuncId}(g:aX.contains f=true){z:Nat}{es':List AV}{H:aa}{h:za}(b:iJ z es' H h)(e:Int):handed env f (.tup [h.x,aI e]) H (.tup [CG z es',aI e]):=by
 obtain⟨c,w,u,v⟩:=b.1.out 4;have o:=b.1.nodup;rw[b.CG]at c;rw[Ly g];simp[c,u,o]
section
variable{n m:AV}{us:List Clear}{qs:List ak}{gr:Int}(q:Sl 3 (de us) n)(t:Sl 5 (cR qs) m)(i:us.length<1000000)(j:qs.length<1000000){l:List (cN × AV)}{x1:AV}(k:Sl 24 (bW l) x1)(a : ∀p∈l,DG p)(d:Jw l)
include q t i j k a d
theorem TJ(dep:Nat){H:aa}(J:Fr H)(c:Int){fd:FuncId}(K:(env.mode fd == 2)=true){caps:List AV}{R:gR->AV->aa->Prop}
 (C:c=0 ->∀b F H2 rb rs ru rk E v,uF us qs gr l=some b->cf H F->OD F H2 rb rs ru rk E v us qs gr b l->uP b ->∃z e u,cb env (dep+1) (.fn fd) ([]++[.ptr rb 0 0]++caps) H2=some (.tup [z,e],u)/\R b (.tup [z,e]) u) :
 ∃y H',cb env dep (.fn 64) [.agg [n,m,aI gr],x1,aI c,.fn (.func fd) [] caps] H=some (y,H')/\uQ (uF us qs gr l) c bI R y H':=by
 have w:bu env Tryz.f64 (dep+1) [.code pE] (uC 0 [.agg [n,m,aI gr],x1,aI c,.fn (.func fd) [] caps]) H λy H'=>uQ (uF us qs gr l) c bI R y H':=by
  have o : ∀b1:aQ,cf H ((⟨dep+1,4,H.gen (dep+1) 4,0⟩,some b1) :: H):=λb1=>cf.cons J _ _ _;obtain⟨y,H2,I,h⟩:=abe (gr:=gr) q t i j k a d (dep+1) (o ⟨3,[.agg [n,m,aI gr]],false,false⟩).fr;rw[KW d]at h;refine pB _ _ _ _ _ _ _ λg=>?_;unfold uQ;simp[ai, *,kH,k.r,q.r,t.r];refine Cb (by kernel_rfl) I ?_;cases D:uF us qs gr l with
  | none=>rw[D]at h;obtain⟨rfl,M⟩:=h;simp
  | some b=>
   rw[D]at h;obtain⟨rb,rs,ru,rk,E,v,rfl,L,B⟩:=h;by_cases G:c=0;·subst G;obtain⟨z,e,u,x,A⟩:=C rfl b _ H2 rb rs ru rk E v D (o _) L B;simp;refine Cb K x ?_;simp;exact A
   simp[G]
 obtain⟨y,H',x,A⟩:=nN (f:=64) (by kernel_rfl) (by kernel_rfl) (by kernel_rfl) (by kernel_rfl) (by kernel_rfl) w;exact⟨y,H',x,A⟩
theorem Oo(dep:Nat){H:aa}(J:Fr H)(c:Int){fd:FuncId}(K:(env.mode fd == 2)=true){caps:List AV}{R:gR->AV->aa->Prop}
 (C:c=0 ->∀b F H2 rb rs ru rk E v,uF us qs gr l=some b->cf H F->OD F H2 rb rs ru rk E v us qs gr b l->uP b ->∃z e u,cb env (dep+1) (.fn fd) ([]++[.ptr rb 0 0]++caps) H2=some (.tup [z,e],u)/\R b (.tup [z,e]) u) :
 ∃y H',cb env dep (.fn 69) [.agg [n,m,aI gr],x1,aI c,.fn (.func fd) [] caps] H=some (y,H')/\uQ (uF us qs gr l) c (aI 0) R y H':=by
 have w:bu env Tryz.f69 (dep+1) [.code pn] (uC 0 [.agg [n,m,aI gr],x1,aI c,.fn (.func fd) [] caps]) H λy H'=>uQ (uF us qs gr l) c (aI 0) R y H':=by
  have o : ∀b1:aQ,cf H ((⟨dep+1,4,H.gen (dep+1) 4,0⟩,some b1) :: H):=λb1=>cf.cons J _ _ _;obtain⟨y,H2,I,h⟩:=abe (gr:=gr) q t i j k a d (dep+1) (o ⟨3,[.agg [n,m,aI gr]],false,false⟩).fr;rw[KW d]at h;refine pb _ _ _ _ _ _ _ λg=>?_;unfold uQ;simp[ai, *,ko,k.r,q.r,t.r];refine Cb (by kernel_rfl) I ?_;cases D:uF us qs gr l with
  | none=>rw[D]at h;obtain⟨rfl,M⟩:=h;simp
  | some b=>
   rw[D]at h;obtain⟨rb,rs,ru,rk,E,v,rfl,L,B⟩:=h;by_cases G:c=0;·subst G;obtain⟨z,e,u,x,A⟩:=C rfl b _ H2 rb rs ru rk E v D (o _) L B;simp;refine Cb K x ?_;simp;exact A
   simp[G]
 obtain⟨y,H',x,A⟩:=nN (f:=69) (by kernel_rfl) (by kernel_rfl) (by kernel_rfl) (by kernel_rfl) (by kernel_rfl) w;exact⟨y,H',x,A⟩
theorem TI(dep:Nat){H:aa}(J:Fr H)(c:Int){fd:FuncId}(K:(env.mode fd == 2)=true){caps:List AV}{R:gR->AV->aa->Prop}
 (C:c=0 ->∀b F H2 rb rs ru rk E v,uF us qs gr l=some b->cf H F->OD F H2 rb rs ru rk E v us qs gr b l->uP b ->∃z e u,cb env (dep+1) (.fn fd) ([]++[.ptr rb 0 0]++caps) H2=some (.tup [z,e],u)/\R b (.tup [z,e]) u) :
 ∃y H',cb env dep (.fn 75) [.agg [n,m,aI gr],x1,aI c,.fn (.func fd) [] caps] H=some (y,H')/\uQ (uF us qs gr l) c bI R y H':=by
 have w:bu env Tryz.f75 (dep+1) [.code nX] (uC 0 [.agg [n,m,aI gr],x1,aI c,.fn (.func fd) [] caps]) H λy H'=>uQ (uF us qs gr l) c bI R y H':=by
  have o : ∀b1:aQ,cf H ((⟨dep+1,4,H.gen (dep+1) 4,0⟩,some b1) :: H):=λb1=>cf.cons J _ _ _;obtain⟨y,H2,I,h⟩:=abe (gr:=gr) q t i j k a d (dep+1) (o ⟨3,[.agg [n,m,aI gr]],false,false⟩).fr;rw[KW d]at h;refine nU _ _ _ _ _ _ _ λg=>?_;unfold uQ;simp[ai, *,jj,k.r,q.r,t.r];refine Cb (by kernel_rfl) I ?_;cases D:uF us qs gr l with
  | none=>rw[D]at h;obtain⟨rfl,M⟩:=h;simp
  | some b=>
   rw[D]at h;obtain⟨rb,rs,ru,rk,E,v,rfl,L,B⟩:=h;by_cases G:c=0;·subst G;obtain⟨z,e,u,x,A⟩:=C rfl b _ H2 rb rs ru rk E v D (o _) L B;simp;refine Cb K x ?_;simp;exact A
   simp[G]
 obtain⟨y,H',x,A⟩:=nN (f:=75) (by kernel_rfl) (by kernel_rfl) (by kernel_rfl) (by kernel_rfl) (by kernel_rfl) w;exact⟨y,H',x,A⟩
theorem WC(dep:Nat){H:aa}(h:Fr H){rb rs ru:Ref}{f w:za}{b:gR}(e:lI H rb rs ru f w us qs gr b) :
 ∃H',cb env dep (.fn 65) [.ptr rb 0 0] H=some (.tup [f.x,aI 0],H')/\cf H H':=by
 refine fT (fn:=Tryz.f65) (c:=B1) (by kernel_rfl) (by kernel_rfl) (by kernel_rfl) (by kernel_rfl) (by kernel_rfl) ?_;refine BX _ _ _ _ λg=>?_;obtain⟨v,o,C,B,z,D,y,_⟩:=e.box;have A:=e.cD.one;have u:=cf.refl h;clear k a e d;simp[ai, *,uX,u]
def Y9(us:List Clear)(qs:List ak)(gr:Int)(l:List (cN × AV)):AV:=match uF us qs gr l with
 | none => .tup [bI,aI 8]
 | some b => .tup [CG 17 (mO b.cD),aI 0]
theorem Sy:ax env 15 [.agg [n,m,aI gr],x1]=some (Y9 us qs gr l):=by
 refine ay rfl (by kernel_rfl) (Df _ _ _ _ λg=>?_);have h:Fr [(⟨0,2,0,0⟩,some ⟨3,[.agg [n,m,aI gr]],false,false⟩)]:=by simp(maxDischargeDepth:=12) [fN, *]
 obtain⟨y,H2,D,c⟩:=TJ (gr:=gr) q t i j k a d 0 h 0 (fd:=65) (by kernel_rfl) (caps:=[])
  (R:=λb y H =>∃e,y = .tup [e.x,aI 0]/\iJ 17 (mO b.cD) H e) (λJ b F H2 rb rs ru rk e G o I u A=>by
   obtain⟨B,C,w⟩:=WC (gr:=gr) q t i j k a d 1 u.g.fr u.bk;exact⟨_,_,B,C,e,rfl,u.bk.cD.grow w⟩)
 unfold uQ at c;unfold Y9;clear k a h d;simp[ai, *,xj,q.r,t.r];refine Cb (by kernel_rfl) D ?_;cases o:uF us qs gr l with
 | none=>rw[o]at c;subst c;simp
 | some b=>rw[o]at c;dsimp only at c ⊢;rw[if_pos rfl]at c;obtain⟨e,rfl,v⟩:=c;have E:=v.one;have z:=HO (f:=15) (by rfl) v 0;simp[-Ly];exact z
def Mb(us:List Clear)(qs:List ak)(gr:Int)(l:List (cN × AV))(o:aw):AV:=match uF us qs gr l with
 | none => .tup [aI 0,aI 8]
 | some b=>if mz o=true then .tup [aI (oB us qs gr b o),aI 0] else .tup [aI 0,aI 8]
theorem Ur(dep:Nat){H:aa}(O:Fr H){rb rs ru:Ref}{P Q:za}{b:gR}(M:lI H rb rs ru P Q us qs gr b)(I:uP b){q1:Ref}(E:UInt8)(A:UInt8)(a_3:UInt32)(C:UInt8)(B:Int)(G:UInt8)(F:UInt32)(z:UInt8)(D:Int)(v:Int)(y:UInt8)(o:UInt32)(w:UInt8)(u:Int)(f:UInt8)(h:UInt32){x:AV}{K:List Int}(J:Sl 1 (rows K) x)(L:K.length<1000000)
 (T:H.get q1=some ⟨17,[.agg [a8 E,a8 A,af a_3,a8 C,aI B,a8 G,af F,a8 z,aI D,aI v,a8 y,af o,a8 w,aI u,a8 f,af h,x]],false,false⟩) : ∃H',cb env dep (.fn 71) [.ptr rb 0 0,.ptr q1 0 0] H=some (.tup [aI (oB us qs gr b (⟨E,⟨A,a_3,C⟩,B,⟨⟨⟨G,F,z⟩,D⟩,v⟩,⟨⟨y,o,w⟩,u⟩,⟨f,h⟩,K⟩:aw)),aI 0],H')/\cf H H':=by
 refine fT (fn:=Tryz.f71) (c:=B0) (by kernel_rfl) (by kernel_rfl) (by kernel_rfl) (by kernel_rfl) (by kernel_rfl) ?_;refine BW _ _ _ _ _ λg=>?_;have N:=Hb (dep+1) O M.at I i j E A a_3 C B G F z D v y o w u f h J L;have S:=J.r;clear k a M I d;generalize oB us qs gr b (⟨E,⟨A,a_3,C⟩,B,⟨⟨⟨G,F,z⟩,D⟩,v⟩,⟨⟨y,o,w⟩,u⟩,⟨f,h⟩,K⟩:aw)=e at *;simp[ai, *,uW];refine nE (by kernel_rfl) N λH2 R=>?_;simp[R]
theorem Sf(D:UInt8)(A:UInt8)(a_3:UInt32)(C:UInt8)(B:Int)(I:UInt8)(G:UInt32)(E:UInt8)(F:Int)(u:Int)(w:UInt8)(f:UInt32)(v:UInt8)(h:Int)(o:UInt8)(c:UInt32){x:AV}{K:List Int}(L:Sl 1 (rows K) x)(O:K.length<1000000) :
 ax env 17 [.agg [n,m,aI gr],x1,.agg [a8 D,a8 A,af a_3,a8 C,aI B,a8 I,af G,a8 E,aI F,aI u,a8 w,af f,a8 v,aI h,a8 o,af c,x]]=some (Mb us qs gr l (⟨D,⟨A,a_3,C⟩,B,⟨⟨⟨I,G,E⟩,F⟩,u⟩,⟨⟨w,f,v⟩,h⟩,⟨o,c⟩,K⟩:aw)):=by
 refine ay rfl (by kernel_rfl) (De _ _ _ _ _ λg=>?_);have M:Fr [(⟨0,5,0,0⟩,some ⟨17,[.agg [a8 D,a8 A,af a_3,a8 C,aI B,a8 I,af G,a8 E,aI F,aI u,a8 w,af f,a8 v,aI h,a8 o,af c,x]],false,false⟩),(⟨0,3,0,0⟩,some ⟨3,[.agg [n,m,aI gr]],false,false⟩)]:=by simp(maxDischargeDepth:=12) [fN, *]
 have hC:=nT D A a_3 C B I G E F u w f v h o c L (by omega);obtain⟨y,H2,W,J⟩:=Oo (gr:=gr) q t i j k a d 0 M (bad (mz (⟨D,⟨A,a_3,C⟩,B,⟨⟨⟨I,G,E⟩,F⟩,u⟩,⟨⟨w,f,v⟩,h⟩,⟨o,c⟩,K⟩:aw))) (fd:=71) (by kernel_rfl) (caps:=[.ptr ⟨0,5,0,0⟩ 0 0])
  (R:=λb y H=>y = .tup [aI (oB us qs gr b (⟨D,⟨A,a_3,C⟩,B,⟨⟨⟨I,G,E⟩,F⟩,u⟩,⟨⟨w,f,v⟩,h⟩,⟨o,c⟩,K⟩:aw)),aI 0]) (λhw b H1 H2 rb rs ru rk xh xr Q X S P=>by
   obtain⟨V,Y,g2⟩:=Ur (gr:=gr) q t i j k a d 1 S.g.fr S.bk P (q1:=⟨0,5,0,0⟩) D A a_3 C B I G E F u w f v h o c L O (S.g.old _ _ (X.old ⟨0,5,0,0⟩ _ (by simp)));exact⟨_,_,V,Y,rfl⟩)
 have T:y=Mb us qs gr l (⟨D,⟨A,a_3,C⟩,B,⟨⟨⟨I,G,E⟩,F⟩,u⟩,⟨⟨w,f,v⟩,h⟩,⟨o,c⟩,K⟩:aw):=by
  unfold uQ at J;unfold Mb;cases Q:uF us qs gr l with
  | none=>rw[Q]at J;exact J
  | some b=>
   rw[Q]at J;cases U:mz (⟨D,⟨A,a_3,C⟩,B,⟨⟨⟨I,G,E⟩,F⟩,u⟩,⟨⟨w,f,v⟩,h⟩,⟨o,c⟩,K⟩:aw) with
   | true=>simp only[U,bad,if_true]at J ⊢;exact J
   | false=>simp[U,bad]at J ⊢;exact J
 have N : ∃z e,Mb us qs gr l (⟨D,⟨A,a_3,C⟩,B,⟨⟨⟨I,G,E⟩,F⟩,u⟩,⟨⟨w,f,v⟩,h⟩,⟨o,c⟩,K⟩:aw) = .tup [aI z,aI e]:=by
  unfold Mb;split;·exact⟨_,_,rfl⟩
  split;·exact⟨_,_,rfl⟩
  exact⟨_,_,rfl⟩
 obtain⟨z,e,N⟩:=N;rw[N]at T ⊢;subst T;have Z:=L.r;clear J N k a M d;simp[ai, *,xi,q.r,t.r];refine Cb (by kernel_rfl) W ?_;simp
theorem YM{b:gR}(h:uF us qs gr l=some b):l.length<=2048:=by
 unfold uF at h;split at h;·rename_i c;exact c.2
 cases h
end
def vR{E:Env}{f:FuncId}{fn:Func}{c:Code}{args:List AV}{R:AV->Prop}(k:E.spec f args=none)(g:E.allowed f=true)(u:E.P.funcs[f]?=some fn)(o:fn.body=some c)(w:Nat.ble args.length fn.ntmps=true)
 (h:bu E fn 0 [.code c] (uC 0 args) [] λx H =>∃y,handed E f x H y/\R y) : ∃y,ax E f args=some y/\R y:=by
 obtain⟨x,H,⟨y,b,v⟩,n,z⟩:=h.h (λ_=>AV.undef) args λi=>(Ih args i).symm;refine⟨y,BO.2 ⟨n,λm A=>?_⟩,v⟩;obtain⟨st,e,T,B⟩:=z m A;subst B;unfold cV;rw[k];unfold vZ;simp only[g,if_true,u,o,if_pos (GX w),e,T,Option.map_some];unfold handed at b;split;·rename_i e;rw[if_pos e]at b;rw[if_pos b.1];exact b.2
 rename_i e;rw[if_neg e]at b;exact b
def nm(v:jW)(p:cN × AV):Bool:=decide (p.1.kind=3)||rG ⟨p.1.op.h.lv,p.1.op.h.cats⟩ v
section
variable{a:List (cN × AV)}(U:a.length<=2048)(F : ∀p∈a,DG p)(j:Jw a){dep:Nat}{q r:Ref}{es:List AV}(J:(es.flatMap dB).Nodup)(L:r ∉ es.flatMap dB)(M:q≠r/\q ∉ es.flatMap dB)(d:UInt8)(C:UInt32){Q:AV->aa->Prop}
include U F j J L M
theorem S2 : ∀(s:List (cN × AV)) (k:Nat) (outs:List (cN × AV)) (H:aa) (W:za),a.drop k=s->k<=a.length->outs.length<=k->Fr H->H.get r=some ⟨24,es,false,false⟩->F2 (DE H.get) es (fB a)->H.get q=some ⟨2,[.agg [a8 d,af C]],false,false⟩->iJ 24 (fB outs) H W ->
 (∀p∈W.rs,p∈(es.take k).flatMap dB\/(p≠r/\p≠q/\p ∉ es.flatMap dB))->(∀p n,W.x = .dsl p 0 n none->p ∉ es.flatMap dB) ->
 (∀H' x',Fr H'->iJ 24 (fB (outs++s.filter (nm ⟨d,C⟩))) H' x'->Q (.tup [x'.x,aI 0]) H')->bu env Tryz.f77 (dep+1) gz [(12,aI k),(3,W.x),(1,.ptr q 0 0),(10,.dsl r 0 a.length none),(11,aI a.length)] H Q:=by
 intro s;induction s with
 | nil=>rintro k outs H W hs hk ho hF hr hes G h3 ht ht2 hQ;obtain rfl:=drop_nil hs hk;have hfin:=hQ H W hF (by simpa using h3);have hc:=h3.one;refine qB _ _ _ _ _ _ _ _ λg=>?_;clear hQ hr h3 F j hes;simp[ai, *,jx];all_goals exact hfin
 | cons p s ih=>
  rintro k outs H W hs hk ho hF hr hes G h3 ht ht2 hQ;obtain⟨hlt,hg,hs',hg'⟩:=drop_cons hs;have hp:=F p (hg ▸ je hlt);have hpo:=j p (hg ▸ je hlt);have e3:=iQa ((k:Int)+1) (by omega);have hlt':(k:Int)<a.length:=by omega
  have heo:fB (outs++[p])=fB outs++[.agg (I8 p.1++oP 1 (rows p.1.op.l) :: I7 p.1)]:=(by simp[fB]);have hat:(fB a)[k]?=some (.agg (I8 p.1++oP 1 (rows p.1.op.l) :: I7 p.1)):=(by unfold fB;rw[k5,hg'];rfl);obtain⟨x0,hx0,cs,ys,rfl,e,hcs⟩:=hes.at hat;cases e;obtain⟨y,rfl,hy⟩:=SC hcs rfl rfl;have Z:(es.take (k+1)).flatMap dB=(es.take k).flatMap dB++dB (.agg (I8 p.1++y :: I7 p.1)):=(by rw[Ev,hx0];simp);have hkl:(es.take (k+1)).flatMap dB++(es.drop (k+1)).flatMap dB=es.flatMap dB:=(by rw[<-AP,KH]);have hsub : ∀x,x∈(es.take (k+1)).flatMap dB->x∈es.flatMap dB:=λx D=>by rw[<-hkl];exact Aj _ D
  have hye : ∀x n c,y = .bN x 0 n c->x∈dB (.agg (I8 p.1++y :: I7 p.1)):=(by rintro x n c rfl;show x∈(I8 p.1++AV.bN x 0 n c :: I7 p.1).flatMap jg;simp[jg]);have hx3 : ∀x n c,y = .bN x 0 n c->x ∉ W.rs:=by
   intro x n c e hm;have h1:=hye x n c e;rcases ht x hm with m | ⟨_,_,m⟩
   ·rw[<-hkl,Z]at J;exact(Fl.1 (Fl.1 J).1).2.2 _ m _ h1 rfl
   exact m (hsub x (by rw[Z];exact Fs _ h1))
  have hr3:r ∉ W.rs:=λhm=>by
   rcases ht r hm with m | ⟨m,_⟩
   ·exact L (hsub r (by rw[Z];exact Aj _ m))
   exact m rfl
  have hq3:q ∉ W.rs:=λhm=>by
   rcases ht q hm with m | ⟨_,m,_⟩
   ·exact M.2 (hsub q (by rw[Z];exact Aj _ m))
   exact m rfl
  have hlive : ∀x∈es.flatMap dB,∃b,H.get x=some b:=F2.live (λx y hh=>DE.live hh) hes;have hstep : ∀(i H2:aa),(∀x b,H.get x=some b->i.get x=some b)->(∀x b,i.get x=some b->(∀n,W.x ≠ .dsl x 0 n none)->H2.get x=some b)->H2.get r=some ⟨24,es,false,false⟩/\F2 (DE H2.get) es (fB a)/\H2.get q=some ⟨2,[.agg [a8 d,af C]],false,false⟩:=(by intro i H2 k1 k2;refine⟨k2 _ _ (k1 _ _ hr) λn e=>hr3 (h3.head e),hes.mono λx D y hh=>hh.aX λz hz b hb=>k2 _ _ (k1 _ _ hb) λn e=>ht2 z n e (fq.2 ⟨x,D,hz⟩),k2 _ _ (k1 _ _ G) λn e=>hq3 (h3.head e)⟩);have E:nm ⟨d,C⟩ p=true ->∀(i:aa),Fr i->(∀x b,H.get x=some b->i.get x=some b) ->∀(H2:aa)(m:za),Fr H2->iJ 24 (fB outs++[.agg (I8 p.1++oP 1 (rows p.1.op.l) :: I7 p.1)]) H2 m->(∀x b,i.get x=some b->(∀n,W.x ≠ .dsl x 0 n none)->H2.get x=some b) ->
   (∀x∈m.rs,x∈W.rs\/(∃n c,y = .bN x 0 n c)\/i.get x=none)->(∃r n,m.x = .dsl r 0 n none/\i.get r=none) ->
   bu env Tryz.f77 (dep+1) gz [(12,aI ((k:Int)+1)),(3,m.x),(1,.ptr q 0 0),(10,.dsl r 0 a.length none),(11,aI a.length)] H2 Q:=by
   intro hb i hF1 k1 H2 m hF2 hR2 k2 m2 n2;obtain⟨g1,g2,g3⟩:=hstep i H2 k1 k2;have hdead : ∀x,i.get x=none->x≠r/\x≠q/\x ∉ es.flatMap dB:=by
    intro x D;refine⟨λe=>?_,λe=>?_,λhm=>?_⟩;·rw[e,k1 _ _ hr]at D;cases D
    ·rw[e,k1 _ _ G]at D;cases D
    obtain⟨b,hb⟩:=hlive x hm;rw[k1 _ _ hb]at D;cases D
   have:=ih (k+1) (outs++[p]) H2 m hs' (by omega) (by simp;omega) hF2 g1 g2 g3 (by rw[heo];exact hR2) (λx D=>?_) (λx n e=>?_) (λH' x' h5 h6=>hQ H' x' h5 (by rw[AL,if_pos hb];simpa using h6));·rw[show((k+1:Nat):Int)=(k:Int)+1 from by omega]at this;exact this
   ·rcases m2 x D with h | ⟨n,c,e⟩ | h
    ·rcases ht x h with h | h
     ·exact .inl (by rw[Z];exact Aj _ h)
     exact .inr h
    ·exact .inl (by rw[Z];exact Fs _ (hye x n c e))
    exact .inr (hdead x h)
   obtain⟨r2,n',e2,h⟩:=n2;rw[e2]at e;cases e;exact(hdead _ h).2.2
  have hno:nm ⟨d,C⟩ p=false ->∀(i:aa),Fr i->(∀x b,H.get x=some b->i.get x=some b) ->
   bu env Tryz.f77 (dep+1) gz [(12,aI ((k:Int)+1)),(3,W.x),(1,.ptr q 0 0),(10,.dsl r 0 a.length none),(11,aI a.length)] i Q:=by
   intro hb i hF1 k1;obtain⟨g1,g2,g3⟩:=hstep i i k1 (λ_ _ h _=>h);have:=ih (k+1) outs i W hs' (by omega) (by omega) hF1 g1 g2 g3 (h3.aX λx _ b hb=>k1 x b hb) (λx D=>by
    rcases ht x D with h | h
    ·exact .inl (by rw[Z];exact Aj _ h)
    exact .inr h) ht2 (λH' x' h5 h6=>hQ H' x' h5 (by rw[AL,hb];exact h6))
   rw[show((k+1:Nat):Int)=(k:Int)+1 from by omega]at this;exact this
  have hy1 : ∀(i:aa),(∀x b,H.get x=some b->i.get x=some b)->(y=bI/\rows p.1.op.l=[])\/(rows p.1.op.l≠[] /\∃q,y = .bN q 0 (rows p.1.op.l).length none/\i.get q=some ⟨1,rows p.1.op.l,true,false⟩/\q ∉ W.rs):=by
   intro i k1;rcases hy with h | ⟨h,q',e,hg⟩
   ·exact .inl h
   exact .inr ⟨h,q',e,k1 _ _ hg,hx3 q' _ _ e⟩
  have hrow1 : ∀(i:aa),(∀x b,H.get x=some b->i.get x=some b)->iJ 24 (fB outs) i W:=λi k1=>h3.aX λx _ b hb=>k1 x b hb;have hyo:y.cells=[y]/\y.one=true:=(by rcases hy with ⟨rfl,_⟩ | ⟨_,_,rfl,_⟩<;>exact⟨rfl,rfl⟩);have hroom:((fB outs).length+1) * 160<=Ab.bg:=(by rw[yF];show _<=140737488355328;omega);have f : ∀b1:aQ,Fr ((⟨dep+1,6,H.gen (dep+1) 6,0⟩,some b1) :: H) /\∀x b,H.get x=some b->aa.get ((⟨dep+1,6,H.gen (dep+1) 6,0⟩,some b1) :: H) x=some b:=λb1=>⟨(cf.cons hF _ _ b1).fr,(cf.cons hF _ _ b1).old⟩;have hc3:=h3.one;have hel:es.length=a.length:=by rw[hes.len,yF]
  have hrd:bL es k 0 24 true=some (.agg (I8 p.1++y :: I7 p.1)):=(by have e:(AV.agg (I8 p.1++y :: I7 p.1)).cells=I8 p.1++y :: I7 p.1:=rfl;rw[PC hx0 (by rw[e];exact⟨cH _,by decide⟩),e,Cx];rfl);obtain⟨lr,lq⟩:(H.get r).isSome=true/\(H.get q).isSome=true:=⟨by rw[hr];rfl,by rw[G];rfl⟩;have hone:(I8 p.1++y :: I7 p.1).all AV.one=true:=by simp[I8,I7,S0,hyo.2]
  clear hstep hlive hr3 hq3 hx3 hye hsub hkl Z ih hQ ht ht2 hes hcs hx0 hat heo hy h3 hs hs' hg hg' F j J L M;obtain⟨⟨k1,u,⟨a_1,⟨P,a_3,a_4⟩,a_5,⟨⟨⟨a_6,a_7,a_8⟩,a_9⟩,a_10⟩,⟨⟨a_11,V,a_13⟩,X⟩,⟨Y,R⟩,al⟩,c,g1,v,w,o⟩,x⟩:=p;have hLq:=Q2 P a_3 d C;have hoB:nm ⟨d,C⟩ (⟨k1,u,(⟨a_1,⟨P,a_3,a_4⟩,a_5,⟨⟨⟨a_6,a_7,a_8⟩,a_9⟩,a_10⟩,⟨⟨a_11,V,a_13⟩,X⟩,⟨Y,R⟩,al⟩:aw),c,g1,v,w,o⟩,x)=(decide (k1=3)||rG ⟨P,a_3⟩ ⟨d,C⟩):=rfl;rw[hoB]at E hno;generalize rG ⟨P,a_3⟩ ⟨d,C⟩=b1 at *;simp only[I8,I7,S0,Ky,sZ]at hrd;refine qB _ _ _ _ _ _ _ _ λg=>?_;by_cases e1:k1=3;·subst e1;have hy2:=E (by simp);clear hno E;simp[ai, *,jx, -Q2, -Pu];refine iJ.app (T:=26) (z:=24) (by':=160) (by kernel_rfl) (by kernel_rfl) (f _).1 (hrow1 _ (f _).2) (A:=I8 ⟨3,u,(⟨a_1,⟨P,a_3,a_4⟩,a_5,⟨⟨⟨a_6,a_7,a_8⟩,a_9⟩,a_10⟩,⟨⟨a_11,V,a_13⟩,X⟩,⟨Y,R⟩,al⟩:aw),c,g1,v,w,o⟩) (B:=I7 ⟨3,u,(⟨a_1,⟨P,a_3,a_4⟩,a_5,⟨⟨⟨a_6,a_7,a_8⟩,a_9⟩,a_10⟩,⟨⟨a_11,V,a_13⟩,X⟩,⟨Y,R⟩,al⟩:aw),c,g1,v,w,o⟩) (rw':=rows al) rfl rfl (hy1 _ (f _).2) rfl (by decide) hone hroom (dp:=dep+1) (t1:=29) (by simp) λH2 m hF2 hR2 k2 m2 n2=>?_;have:=hy2 _ (f _).1 (f _).2 H2 m hF2 hR2 k2 m2 n2;simp[e3];exact this
  cases b1 with| true=>have hy2:=E (by simp);clear hno E;simp[ai, *,jx, -Q2, -Pu,e1];refine iJ.app (T:=26) (z:=24) (by':=160) (by kernel_rfl) (by kernel_rfl) (f _).1 (hrow1 _ (f _).2) (A:=I8 ⟨k1,u,(⟨a_1,⟨P,a_3,a_4⟩,a_5,⟨⟨⟨a_6,a_7,a_8⟩,a_9⟩,a_10⟩,⟨⟨a_11,V,a_13⟩,X⟩,⟨Y,R⟩,al⟩:aw),c,g1,v,w,o⟩) (B:=I7 ⟨k1,u,(⟨a_1,⟨P,a_3,a_4⟩,a_5,⟨⟨⟨a_6,a_7,a_8⟩,a_9⟩,a_10⟩,⟨⟨a_11,V,a_13⟩,X⟩,⟨Y,R⟩,al⟩:aw),c,g1,v,w,o⟩) (rw':=rows al) rfl rfl (hy1 _ (f _).2) rfl (by decide) hone hroom (dp:=dep+1) (t1:=29) (by simp) λH2 m hF2 hR2 k2 m2 n2=>?_;have:=hy2 _ (f _).1 (f _).2 H2 m hF2 hR2 k2 m2 n2;simp[e3];exact this| false=>have hn2:=hno (by simp[e1]);clear hno E;simp[ai, *,jx, -Q2, -Pu,e1];exact hn2 _ (f _).1 (f _).2
end
section
variable{S O:AV}{us:List Clear}{qs:List ak}{gr:Int}(N:Sl 3 (de us) S)(G:Sl 5 (cR qs) O)(I:us.length<1000000)(K:qs.length<1000000){l:List (cN × AV)}{x1:AV}(D:Sl 24 (bW l) x1)(t : ∀p∈l,DG p)(j:Jw l)
include N G I K D t j
def Re(us:List Clear)(qs:List ak)(gr:Int)(l:List (cN × AV))(d:UInt8)(C:UInt32):AV:=match uF us qs gr l with
 | none => .tup [bI,aI 8]
 | some b=>if d<=15 then .tup [CG 24 (fB (l.filter (nm ⟨d,C⟩))),aI 0] else .tup [bI,aI 8]
theorem S4(R:l.length<=2048)(dep:Nat){H:aa}(P:Fr H){rb rs ru:Ref}{W i:za}{b:gR}(u:lI H rb rs ru W i us qs gr b)(o:iJ 24 (fB l) H i){q:Ref}(k:q ∉ i.rs)(d:UInt8)(C:UInt32)(h:H.get q=some ⟨2,[.agg [a8 d,af C]],false,false⟩) :
 ∃y H',cb env dep (.fn 77) [.ptr rb 0 0,.ptr q 0 0] H=some (y,H') /\∃f:za,y = .tup [f.x,aI 0]/\iJ 24 (fB (l.filter (nm ⟨d,C⟩))) H' f:=by
 refine nN (fn:=Tryz.f77) (c:=Fe) (Q:=λy H' =>∃f:za,y = .tup [f.x,aI 0]/\iJ 24 (fB (l.filter (nm ⟨d,C⟩))) H' f) (by kernel_rfl) (by kernel_rfl) (by kernel_rfl) (by kernel_rfl) (by kernel_rfl) ?_;refine EC _ _ _ _ _ λg=>?_;obtain⟨X,T,yu,yq,wu,wq,E,_⟩:=u.box;have c9:=u.one;by_cases z:l=[];·subst z;have v:i.x=bI:=o.2 rfl;rw[v]at E;clear D t u o j;simp[ai, *,tP];refine qB _ _ _ _ _ _ _ _ λg=>?_;simp[ai, *,jx];exact⟨⟨bI,[]⟩,rfl,iJ.nil _ _⟩
 obtain⟨r,es,e,e2,Z,w,V,B⟩ : ∃r es,i.x = .dsl r 0 es.length none/\es≠[]/\H.get r=some ⟨24,es,false,false⟩/\F2 (DE H.get) es (fB l)/\i.rs=r :: es.flatMap dB/\i.rs.Nodup:=by
  rcases o.1 with ⟨_,e,_⟩ | ⟨_,_,e,_⟩ | h
  ·exact(z (by simpa [fB] using e)).elim
  ·exact(z (by simpa [fB] using e)).elim
  exact h
 have m:es.length=l.length:=(by rw[w.len,yF]);rw[V]at B k;obtain⟨n1,n2⟩:=yd.1 B;simp only[eD,not_or]at k;have A:=S2 R t j (dep:=dep) (q:=q) (r:=r) n2 n1 k d C (Q:=λy H' =>∃f:za,y = .tup [f.x,aI 0]/\iJ 24 (fB (l.filter (nm ⟨d,C⟩))) H' f) l 0 [] H ⟨bI,[]⟩ rfl (by omega) (by simp) P Z w h (iJ.nil _ _) (λp hp=>by cases hp) (λp n e=>by cases e) (λH' f _ Y=>⟨f,rfl,Y⟩);rw[m]at e;rw[e]at E;clear D t u o j w;simp[ai, *,tP];exact A
theorem abd(d:UInt8)(C:UInt32):ax env 19 [.agg [S,O,aI gr],x1,.agg [a8 d,af C]]=some (Re us qs gr l d C):=by
 refine ay rfl (by kernel_rfl) (Hi _ _ _ _ _ λg=>?_);have k:Fr [(⟨0,5,0,0⟩,some ⟨2,[.agg [a8 d,af C]],false,false⟩),(⟨0,3,0,0⟩,some ⟨3,[.agg [S,O,aI gr]],false,false⟩)]:=by simp(maxDischargeDepth:=12) [fN, *]
 have T:=Vj d C;obtain⟨y,H2,w,c⟩:=TI (gr:=gr) N G I K D t j 0 k (bad (decide (d<=15))) (fd:=77) (by kernel_rfl) (caps:=[.ptr ⟨0,5,0,0⟩ 0 0])
  (R:=λb y H =>∃e:za,y = .tup [e.x,aI 0]/\iJ 24 (fB (l.filter (nm ⟨d,C⟩))) H e) (λX b P H2 rb rs ru rk V W n z i F=>by
   have o:=z.old ⟨0,5,0,0⟩ ⟨2,[.agg [a8 d,af C]],false,false⟩ (by simp);obtain⟨y,v,A,e,rfl,B⟩:=S4 (gr:=gr) N G I K D t j (YM N G I K D t j n) 1 i.g.fr i.bk i.row (q:=⟨0,5,0,0⟩) (i.ne o).2.2.2.2 d C (i.g.old _ _ o);exact⟨_,_,v,A,e,rfl,B⟩)
 clear D t k j;simp[ai, *,Bu,N.r,G.r, -Sw];refine Cb (by kernel_rfl) w ?_;unfold uQ at c;unfold Re;cases n:uF us qs gr l with
 | none=>rw[n]at c;subst c;simp
 | some b=>
  rw[n]at c;dsimp only at c ⊢;by_cases m:d<=15;·simp only[m,decide_true,bad,if_true]at c ⊢;obtain⟨e,rfl,h⟩:=c;have E:=h.one;have u:=HO (f:=19) (by rfl) h 0;simp[-Ly,m];exact u
  simp only[m,decide_false,bad]at c;simp at c;subst c;simp[m]
end
def Ps(N:UInt8)(G:UInt8)(a_3:UInt32)(M:UInt8)(K:Int)(V:UInt8)(U:UInt32)(Q:UInt8)(T:Int)(t:Int)(v:UInt8)(c:UInt32)(u:UInt8)(e:Int)(i:UInt8)(b:UInt32)(J:UInt8)(P:UInt8)(O:UInt32)(L:UInt8)(R:Int)(S:UInt8)(I:UInt32)(W:UInt8)(H:Int)(a:Int)(q:UInt8)(h:UInt32)(n:UInt8)(w:Int)(o:UInt8)(k:UInt32){x y:AV}{l m:List Int}(f:Sl 1 (rows l) x)(B:Sl 1 (rows m) y)(A:l.length<1000000000)(z:m.length<1000000000):ax env 62 [.agg [a8 N,a8 G,af a_3,a8 M,aI K,a8 V,af U,a8 Q,aI T,aI t,a8 v,af c,a8 u,aI e,a8 i,af b,x],.agg [a8 J,a8 P,af O,a8 L,aI R,a8 S,af I,a8 W,aI H,aI a,a8 q,af h,a8 n,aI w,a8 o,af k,y]]=some (aB (oN (⟨N,⟨G,a_3,M⟩,K,⟨⟨⟨V,U,Q⟩,T⟩,t⟩,⟨⟨v,c,u⟩,e⟩,⟨i,b⟩,l⟩:aw) (⟨J,⟨P,O,L⟩,R,⟨⟨⟨S,I,W⟩,H⟩,a⟩,⟨⟨q,h,n⟩,w⟩,⟨o,k⟩,m⟩:aw))):=by
 refine ay rfl (by kernel_rfl) (qT _ _ _ _ λg=>?_);have j:=Mz f B (by omega);have Z:=f.r;have X:=B.r;unfold oN;cases c1:decide (N=J) with
 | false=>simp[ai, *,cK,ia,cg]
 | true=>
 cases c2:(decide (G=P)&&decide (a_3=O)&&decide (M=L)) with| false=>simp[ai, *,cK,ia,cg]| true=>
 cases c3:decide (K=R) with| false=>simp[ai, *,cK,ia,cg]| true=>
 cases c4:(decide (V=S)&&decide (U=I)&&decide (Q=W)&&decide (T=H)&&decide (t=a)) with| false=>simp[ai, *,cK,ia,cg]| true=>
 cases c5:(decide (v=q)&&decide (c=h)&&decide (u=n)&&decide (e=w)) with| false=>simp[ai, *,cK,ia,cg]| true=>
 cases Y:(decide (i=o)&&decide (b=k)) with| false=>simp[ai, *,cK,ia,cg]| true=>simp[ai, *,cK,ia,cg]
def Yi(k1 k2:UInt8)(X u2:Int)(N:UInt8)(G:UInt8)(a_3:UInt32)(M:UInt8)(K:Int)(V:UInt8)(U:UInt32)(Q:UInt8)(T:Int)(t:Int)(v:UInt8)(c:UInt32)(u:UInt8)(e:Int)(i:UInt8)(b:UInt32)(J:UInt8)(P:UInt8)(O:UInt32)(L:UInt8)(R:Int)(S:UInt8)(I:UInt32)(W:UInt8)(H:Int)(a:Int)(q:UInt8)(h:UInt32)(n:UInt8)(w:Int)(o:UInt8)(k:UInt32)(Z Y g1 g2:Int)(v1 v2:UInt8)(w1 w2:UInt32)(o1 o2:Bool){x y:AV}{l m:List Int}(f:Sl 1 (rows l) x)(B:Sl 1 (rows m) y)(A:l.length<1000000000)(z:m.length<1000000000) :
 ax env 80 [.agg [a8 k1,aI X,a8 N,a8 G,af a_3,a8 M,aI K,a8 V,af U,a8 Q,aI T,aI t,a8 v,af c,a8 u,aI e,a8 i,af b,x,aI Z,aI g1,a8 v1,af w1,aB o1],.agg [a8 k2,aI u2,a8 J,a8 P,af O,a8 L,aI R,a8 S,af I,a8 W,aI H,aI a,a8 q,af h,a8 n,aI w,a8 o,af k,y,aI Y,aI g2,a8 v2,af w2,aB o2]] =
  some (aB (nj ⟨k1,X,(⟨N,⟨G,a_3,M⟩,K,⟨⟨⟨V,U,Q⟩,T⟩,t⟩,⟨⟨v,c,u⟩,e⟩,⟨i,b⟩,l⟩:aw),Z,g1,v1,w1,o1⟩ ⟨k2,u2,(⟨J,⟨P,O,L⟩,R,⟨⟨⟨S,I,W⟩,H⟩,a⟩,⟨⟨q,h,n⟩,w⟩,⟨o,k⟩,m⟩:aw),Y,g2,v2,w2,o2⟩)):=by
 refine ay rfl (by kernel_rfl) (yv _ _ _ _ λg=>?_);have j:=Ps N G a_3 M K V U Q T t v c u e i b J P O L R S I W H a q h n w o k f B A z;have hr:=f.r;have hr2:=B.r;unfold nj;cases e1:decide (k1=k2) with
 | false=>simp[ai, *,fc,ia,cg]
 | true=>
 cases e2:decide (X=u2) with| false=>simp[ai, *,fc,ia,cg]| true=>
 cases e3:oN (⟨N,⟨G,a_3,M⟩,K,⟨⟨⟨V,U,Q⟩,T⟩,t⟩,⟨⟨v,c,u⟩,e⟩,⟨i,b⟩,l⟩:aw) (⟨J,⟨P,O,L⟩,R,⟨⟨⟨S,I,W⟩,H⟩,a⟩,⟨⟨q,h,n⟩,w⟩,⟨o,k⟩,m⟩:aw) with| false=>simp[ai, *,fc,ia,cg]| true=>
 cases e4:decide (Z=Y) with| false=>simp[ai, *,fc,ia,cg]| true=>simp[ai, *,fc,ia,cg]
def VO{a b:aw}(h:oN a b=true):a=b:=by
 obtain⟨U,⟨K,a_3,Q⟩,O,⟨⟨⟨X,T,I⟩,S⟩,u⟩,⟨⟨G,i,w⟩,t⟩,⟨c,g⟩,Z⟩:=a;obtain⟨N,⟨W,V,P⟩,J,⟨⟨⟨R,M,Y⟩,L⟩,e⟩,⟨⟨q,v,n⟩,H⟩,⟨o,k⟩,bl⟩:=b;simp[oN]at h;simp[h]
def UR{a b:cN}(h:nj a b=true):a=b:=by
 obtain⟨L,v,H,w,N,G,K,a8⟩:=a;obtain⟨b1,b2,b3,t,J,I,u,M⟩:=b;simp only[nj,aT,iQb]at h;obtain⟨g,o,k,n,e,⟨i,q⟩,c⟩:=h;rw[g,o,VO k,n,e,i,q,c]
def Pn(a:cN):nj a a=true:=by simp[nj,oN]
def Q6(l:List (cN × AV)):List cN:=l.map (·.1)
@[simp] def ah7(l:List (cN × AV)):(Q6 l).length=l.length:=by simp[Q6]
def R7(a b:cN):nj a b=true↔a=b:=⟨UR,λh=>by rw[h];exact Pn b⟩
def afO{p q:cN × AV}(hp:DG p)(j:DG q):ax env 80 [p.1.val p.2,q.1.val q.2]=some (aB (nj p.1 q.1)):=by
 obtain⟨⟨k,u,⟨a_1,⟨Q,a_3,X⟩,U,⟨⟨⟨a_6,Z,O⟩,Y⟩,H⟩,⟨⟨K,h,J⟩,G⟩,⟨a,e⟩,l⟩,c,g,v,w,o⟩,x⟩:=p;obtain⟨⟨k',u',⟨T,⟨b_2,b_3,V⟩,P,⟨⟨⟨W,S,N⟩,R⟩,b⟩,⟨⟨t,I,M⟩,L⟩,⟨n,i⟩,m⟩,c',g',v',w',o'⟩,y⟩:=q;exact Yi k k' u u' a_1 Q a_3 X U a_6 Z O Y H K h J G a e T b_2 b_3 V P W S N R b t I M L n i c c' g g' v v' w w' o o' hp.1 j.1 (by have:=hp.2;simp at this;omega) (by have:=j.2;simp at this;omega)
def An:List cN->List cN->Bool
 | [],[]=>true
 | a :: l,b :: m=>nj a b&&An l m
 | _,_=>false
def EG : ∀(l m:List cN),An l m=true↔l=m:=by
 intro l;induction l with
 | nil=>intro m;cases m<;>simp[An]
 | cons a l c=>intro m;cases m with
  | nil=>simp[An]
  | cons b m=>simp[An,R7,c]
def R8{l m:List cN}(h:l.length≠m.length):An l m=false:=by
 cases e:An l m with| false=>rfl| true=>exact absurd (iQg List.length ((EG l m).1 e)) h
section
variable{l m:List (cN × AV)}{x y:AV}(f:Sl 24 (bW l) x)(B:Sl 24 (bW m) y)(A : ∀p∈l,DG p)(z : ∀p∈m,DG p)(C:l.length<1000000)
include f B A z C
theorem K2(G:l.length=m.length){Q:AV->aa->Prop}{H:aa} : ∀(s t:List (cN × AV)) (k:Nat) (i:Int),l.drop k=s->m.drop k=t->k<=l.length->i=k->(Q (aB (An (Q6 s) (Q6 t))) H) ->
 bu env Tryz.f22 0 gp [(5,aI i),(1,y),(0,x)] H Q:=by
 intro s;induction s with
 | nil=>rintro t k i hs ht hk rfl hQ;obtain rfl:=drop_nil hs hk;rw[G,OK]at ht;subst ht;refine nL _ _ _ _ _ λg=>?_;simp[ai, *,gw,f.r];all_goals simpa [Q6,An] using hQ
 | cons p s M=>
  rintro t k i hs ht hk rfl hQ;obtain⟨O,R,v,I⟩:=drop_cons hs;have L:k<m.length:=by omega
  obtain⟨q,t',rfl⟩ : ∃q t',t=q :: t':=by
   cases t with| nil=>have:=iQg List.length ht;simp at this;omega| cons q t'=>exact⟨q,t',rfl⟩
  obtain⟨_,w,J,c⟩:=drop_cons ht;have b:=A p (R ▸ je _);have u:=z q (w ▸ je _);have j:=afO b u;have S:=iQa ((k:Int)+1) (by omega);have h:=M t' (k+1) ((k:Int)+1) v J (by omega) (by simp);have P:=b.1.r;have N:=u.1.r;have o:bL (bW l) k 0 24 true=some (p.1.val p.2):=by simp[bW,I,cN.val]
  have n:bL (bW m) k 0 24 true=some (q.1.val q.2):=(by simp[bW,c,cN.val]);have a:Q (aB (nj p.1 q.1&&An (Q6 s) (Q6 t'))) H:=hQ;clear M hQ A z;unfold cN.val at j o n;generalize nj p.1 q.1=e at *;refine nL _ _ _ _ _ λg=>?_;cases e with
  | false=>simp[ai, *,gw,f.r,f.idx,B.r,B.idx];simpa using a
  | true=>rw[m9]at a;have K:=h a;clear h a;simp[ai, *,gw,f.r,f.idx,B.r,B.idx]
theorem JU:ax env 22 [x,y]=some (aB (An (Q6 l) (Q6 m))):=by
 refine ay rfl (by kernel_rfl) (vE _ _ _ _ λg=>?_);by_cases a:l.length=m.length;·have h:=K2 f B A z C a (Q:=λv H=>handed env 22 v H (aB (An (Q6 l) (Q6 m)))) (H:=[]) l m 0 0 rfl rfl (by omega) rfl (by simp);have b:=f.r;have e:=B.r;rw[eZ]at b e;rw[a]at b;clear A z;simp[ai, *,lf];exact h
 have c : ¬(l.length:Int)=m.length:=by omega
 rw[R8 (by simpa using a)];clear A z;simp[ai, *,lf,f.r,B.r]
end
section
variable{E D:AV}{us:List Clear}{qs:List ak}{gr:Int}(F:Sl 3 (de us) E)(j:Sl 5 (cR qs) D){l:List (cN × AV)}{x:AV}(f:Sl 24 (bW l) x)(A : ∀p∈l,Sl 1 (rows p.1.op.l) p.2)(d:Int)
include F j f A
theorem Qg{q:Ref}{Q:AV->aa->Prop}{H:aa}(Y:H.get q=some ⟨3,[.agg [E,D,aI gr]],false,false⟩)(o : ∀t:Bool,(t=false->us.length<=100/\qs.length<=100/\(l.length:Int)<=d /\∀p∈l.take 300,p.1.op.l.length<=300)->Q (aB t) H) :
 ∀(s:List (cN × AV)) (k:Nat) (i n:Int),l.drop k=s->k<=l.length->i=k->k<=300->0<=n->n<=1000 * k->(∀p∈l.take k,min (p.1.op.l.length:Int) 1000<=n) ->
 bu env Tryz.f13 0 fg [(8,aI i),(1,x),(7,aI n),(2,aI d),(3,.ptr q 0 0)] H Q:=by
 intro s;have Z:=Vc gr F j;have a : ∀n:Int,(∀p∈l.take 300,min (p.1.op.l.length:Int) 1000<=n)->Q (aB (decide (100<(us.length:Int))||decide (100<(qs.length:Int))||decide (d<l.length)||decide (300<n))) H:=by
  intro n I;refine o _ λh=>?_;simp at h;refine⟨by omega,by omega,by omega,λp hp=>?_⟩;have:=I p hp;omega
 generalize (decide (100<(us.length:Int))||decide (100<(qs.length:Int)))=gg at *;induction s with
 | nil=>rintro k i n hs hk rfl P h0 I z;obtain rfl:=drop_nil hs hk;rw[AT]at z;have e:=a n (λp hp=>z p (ye hp));refine oD _ _ _ _ _ _ _ λg=>?_;clear o a A z;cases gg<;>by_cases b:d<l.length<;>simp[ai, *,iD,f.r,F.r,j.r];all_goals simpa [b] using e
 | cons p s J=>
  rintro k i n hs hk rfl P h0 I z;obtain⟨S,U,v,c⟩:=drop_cons hs;have R:=(A p (U ▸ je _)).r;have e3:=iQa ((k:Int)+1) (by omega);refine oD _ _ _ _ _ _ _ λg=>?_;have T:(k:Int)<l.length:=by omega
  by_cases O:k<300
  ·have u:(k:Int)<300:=(by omega);have L:bL (bW l) k 18 1 false=some p.2:=(by simp[bW,c,cN.val]);have K:bL (bW l) k 11 1 false=some (aI p.1.op.s.many):=(by simp[bW,c,cN.val]);have G:=λm (V:0<=m) (X:m<=1000) (P:min (p.1.op.l.length:Int) 1000<=m)=>J (k+1) ((k:Int)+1) (n+m) v (by omega) (by simp) (by omega) (by omega) (by omega) (by
    intro q j;rw[Ev,c]at j;rcases iN.1 j with j | j
    ·have:=z q j;omega
    simp at j;subst j;omega)
   have W:=λm (V:0<=m) (X:m<=1000)=>iQa (n+m) (by omega);clear J o a A z;simp[ai, *,iD,f.r,f.idx];rw[W _ (by repeat' split<;>omega) (by repeat' split<;>omega)];exact G _ (by repeat' split<;>omega) (by repeat' split<;>omega) (by repeat' split<;>omega)
  have w:k=300:=(by omega);subst w;have e:=a n z;have M:300<l.length:=by omega
  have N:(300:Int)<l.length:=(by omega);clear J o a A z;cases gg<;>by_cases b:d<l.length<;>simp[ai, *,iD,f.r,F.r,j.r];all_goals simpa [b] using e
theorem Vi : ∃t:Bool,ax env 13 [.agg [E,D,aI gr],x,aI d]=some (aB t)/\(t=false->us.length<=100/\qs.length<=100/\(l.length:Int)<=d /\∀p∈l.take 300,p.1.op.l.length<=300):=by
 have h : ∃y,ax env 13 [.agg [E,D,aI gr],x,aI d]=some y /\∃t:Bool,y=aB t/\(t=false->us.length<=100/\qs.length<=100/\(l.length:Int)<=d /\∀p∈l.take 300,p.1.op.l.length<=300):=by
  refine vR (fn:=Tryz.f13) (c:=xP) (by kernel_rfl) (by kernel_rfl) (by kernel_rfl) (by kernel_rfl) (by kernel_rfl) ?_;refine xy _ _ _ _ _ λg=>?_;have a:=λ(q:Ref)(H:aa)(b:H.get q=some ⟨3,[.agg [E,D,aI gr]],false,false⟩)=>Qg (q:=q) (H:=H) (Q:=λx H =>∃y,handed env 13 x H y /\∃t:Bool,y=aB t/\(t=false->us.length<=100/\qs.length<=100/\(l.length:Int)<=d /\∀p∈l.take 300,p.1.op.l.length<=300)) (gr:=gr) F j f A d b (λt i=>⟨aB t,by simp,t,rfl,i⟩) l 0 0 0 rfl (by omega) rfl (by simp) (by simp) (by simp) (by simp);have key : ∀Q:AV->aa->Prop,(∀(q:Ref)(H:aa),H.get q=some ⟨3,[.agg [E,D,aI gr]],false,false⟩->bu env Tryz.f13 0 fg [(8,aI 0),(1,x),(7,aI 0),(2,aI d),(3,.ptr q 0 0)] H Q)->mi g (.agg [E,D,aI gr]) x (aI d) [] Q:=(by intro Q h;clear a;simp[ai, *,mi,F.r,j.r]);exact key _ a
 obtain⟨y,e,t,rfl,k⟩:=h;exact⟨t,e,k⟩
end
end
section
def VZ{us0:List Clear}{qs:List ak}{gr0:Int} : ∀(l:List (cN × AV)) {b b':gR},V0 us0 qs gr0 b l=some b' ->∀p∈l,eu p.1=true
 | [],_,_,_=>by intro p hp;cases hp
 | q :: l,b,b',h=>by
  unfold V0 at h;split at h
  ·rename_i a;intro p hp;rcases eD.1 hp with rfl | hp
   ·exact a.1
   exact VZ l h p hp
  cases h
def abN{us:List Clear}{qs:List ak}{gr:Int}{l:List (cN × AV)}{b:gR}(h:uF us qs gr l=some b) : ∀p∈l,eu p.1=true:=by
 unfold uF at h;split at h;·exact VZ l h
 cases h
end
section
def zW{a b:UInt32}:a &&& ~~~b=0 ↔ ∀i,a.toBitVec.getLsbD i=true->b.toBitVec.getLsbD i=true:=by
 rw[<-UInt32.toBitVec_inj];constructor
 ·intro h i c;have:=iQg (λz=>BitVec.getLsbD z i) h;simp only[OS,OR,KD,KC,UInt32.toBitVec_ofNat]at this;have e:i<32:=by
   rcases eC i 32 with h | h
   ·exact h
   rw[BitVec.getLsbD_of_ge _ _ h]at c;cases c
  simp[c,e]at this;exact this
 intro h;apply iQH;intro i c;simp only[OS,OR,KD,KC];have:=h i;cases f:a.toBitVec.getLsbD i with
 | false=>simp
 | true=>simp[this f]
def Ip{a b c:jW}(e:rG a b=true)(f:rG b c=true):rG a c=true:=by
 simp only[rG,aT,iQb]at e f ⊢;exact⟨UInt8.le_trans e.1 f.1,zW.2 λi j=>zW.1 f.2 i (zW.1 e.2 i j)⟩
def JA(v:jW)(o:aw):Bool:=rG (LJ o) v
def Hv(ents:List (bM × AV))(i j:bM):fK (jQ i (aB true) ents) j=(decide (j=i)||fK ents j):=by
 unfold fK;by_cases e:j=i;·subst e;rw[oW];simp
 rw[np e];simp[e]
def zC : ∀(a:List bM)(ents:List (bM × AV)) (j:bM),fK (uM ents a) j=(decide (j∈a)||fK ents j)
 | [],ents,j=>by simp
 | i :: a,ents,j=>by
  rw[FV,zC a,Hv];by_cases e:j=i<;>simp[e]
def YP{s:wm}{i:bM}(h:i∈ck s):OG i=⟨s.f.h.lv,s.f.h.cats⟩:=by
 unfold ck at h;obtain⟨k,_,rfl⟩:=jO.1 h;rfl
def YK{o:aw}(h:mz o=true)(k:o.kind=1):o.s.f.h=o.h:=by
 unfold mz CH at h;rw[if_pos k]at h;simp only[aT,Is]at h;exact(R9 _ _).1 h.2.2.2.2.2.2.1
def EX{v w:jW}(b:rG w v=true)(i:bM) : ∀(l:List aw)(out:List jW),vQ out (l.filter (JA v)) i w=vQ out l i w
 | [],out=>rfl
 | o :: l,out=>by
  rw[AL];by_cases e:JA v o=true;·rw[if_pos e];exact EX b i l _
  rw[if_neg e,EX b i l out];have a:kK o i w=false:=by
   cases a:kK o i w with| false=>rfl| true=>unfold kK at a;simp only[aT]at a;exact absurd (Ip a.2.2 b) e
  show vQ out l i w=vQ (if kK o i w then sX out o.to else out) l i w;rw[a];rfl
def Kk{v:jW}{o:aw}(a:JA v o=true)(l:List aw):la (l.filter (JA v)) o=la l o:=by
 unfold la pT;simp only[EX a]
structure OF (v:jW) (ops:List (aw × AV)) (ents:List (bM × AV)) (g:List (aw × AV)) (d:List (bM × AV)):Prop where
 opsE:opsOf g=(opsOf ops).filter (JA v)
 there : ∀i,rG (OG i) v=true->fK d i=fK ents i
 right:mb [] (opsOf ops)=true
 right':mb [] (opsOf g)=true
 len:ents.length<=64 * ops.length
 len':d.length<=64 * g.length
def OF.lens{v:jW}{ops:List (aw × AV)}{ents:List (bM × AV)}{g:List (aw × AV)}{d:List (bM × AV)}(h:OF v ops ents g d):g.length<=ops.length:=by
 have e:=iQg List.length h.opsE;have a:=GU (JA v) (opsOf ops);simp only[opsOf,pI]at e a;omega
def JT{v:jW}{ents d:List (bM × AV)}(b : ∀i,rG (OG i) v=true->fK d i=fK ents i){o:aw}(a:JA v o=true)(i:bM):vJ d o i=vJ ents o i:=by
 unfold vJ;cases e:rG (OG i) (LJ o) with
 | false=>simp
 | true=>rw[b i (Ip e a)]
def FJ{v:jW}{ents d:List (bM × AV)}(a : ∀i,rG (OG i) v=true->fK d i=fK ents i){o:aw}(b:JA v o=true):sj d o=sj ents o:=by
 unfold sj;simp only[JT a b]
def any_congr{a:Type}{p q:a->Bool} : ∀ {l:List a},(∀x∈l,p x=q x)->l.any p=l.any q
 | [],_=>rfl
 | x :: l,h=>by
  rw[GJ,GJ,h x gy,any_congr λy b=>h y (fO _ b)]
def zT{l:List aw}(h:mb [] l=true)(a:l.length<=2048):qH l=0:=by
 unfold qH;rw[if_neg (by omega),if_pos h]
section
variable{v:jW}{ops:List (aw × AV)}{ents:List (bM × AV)}{g:List (aw × AV)}{d:List (bM × AV)}(h:OF v ops ents g d)(m:ops.length<=100)
include h m
theorem W2{o:aw}(b:JA v o=true)(e:mz o=true):vX g d o=vX ops ents o:=by
 have p:=h.lens;have n:=h.len;have t:=h.len';have q:=gS (lS e);have k:uV g d o=uV ops ents o:=by
  unfold uV;by_cases k1:o.kind=1
  ·rw[if_pos k1,if_pos k1];unfold fR;have a:(ck o.s).any (fK d)=(ck o.s).any (fK ents):=any_congr λi f=>by
    refine h.there i ?_;rw[YP f,YK e k1];exact b
   rw[JT h.there b,a,if_neg (show ¬8192<(d.length:Int)+o.s.many by omega),if_neg (show ¬8192<(ents.length:Int)+o.s.many by omega)]
  rw[if_neg k1,if_neg k1];by_cases c:o.kind=2;·rw[if_pos c,if_pos c];unfold zD;rw[FJ h.there b]
  rw[if_neg c,if_neg c];unfold zE;have l:qH (opsOf ops)=0:=zT h.right (by simp[opsOf];omega);have j:qH (opsOf g)=0:=zT h.right' (by simp[opsOf];omega);rw[FJ h.there b,l,j,h.opsE,Kk b]
 unfold vX;rw[k,if_neg (by omega),if_neg (by omega)]
theorem Rv{o:aw}(a:vX ops ents o=0)(e:mz o=true):la (opsOf ops) o=true:=by
 unfold vX at a;rw[if_neg (by omega)]at a;unfold uV at a;by_cases b:o.kind=3
 ·rw[if_neg (by rw[b];decide),if_neg (by rw[b];decide)]at a;unfold zE at a;split at a;·cases a
  split at a;·rename_i c;exact c.2
  cases a
 unfold la;rw[if_neg b]
end
def A7{l:List aw}{o:aw}(h:mb [] l=true)(b:mz o=true)(a:la l o=true):mb [] (l++[o])=true:=by
 rw[Pz,h,m9];show(mz o&&la ([]++l) o&&true)=true;rw[sZ,b,a];rfl
def qG(l:List (aw × AV))(p:aw × AV):opsOf (l++[p])=opsOf l++[p.1]:=by simp[opsOf]
def yR(ents:List (bM × AV))(o:aw):List (bM × AV):=if o.kind=1 then uM ents (ck o.s) else ents
def Ko{ents:List (bM × AV)}{o:aw}(a:mz o=true):(yR ents o).length<=ents.length+64:=by
 have c:=gS (lS a);unfold yR;split
 ·have:=CO (ck o.s) ents;have b:(ck o.s).length=o.s.many.toNat:=by simp[ck]
  omega
 omega
section
variable{v:jW}{ops:List (aw × AV)}{ents:List (bM × AV)}{g:List (aw × AV)}{d:List (bM × AV)}(h:OF v ops ents g d)(m:ops.length<=100)
include h m
theorem OF.low{p p':aw × AV}(e:p'.1=p.1)(f:JA v p.1=true)(a:mz p.1=true)(c:vX ops ents p.1=0):mz p'.1=true/\vX g d p'.1=0/\OF v (ops++[p]) (yR ents p.1) (g++[p']) (yR d p'.1):=by
 rw[e];have b:vX g d p.1=0:=by rw[W2 h m f a];exact c
 refine⟨a,b,?_,λi j=>?_,?_,?_,?_,?_⟩;·rw[qG,qG,h.opsE,KB,e];simp[f]
 ·unfold yR;split;·rw[zC,zC,h.there i j]
  exact h.there i j
 ·rw[qG];exact A7 h.right a (Rv h m c a)
 ·rw[qG,e];refine A7 h.right' a ?_;rw[h.opsE,Kk f];exact Rv h m c a
 ·have:=Ko (ents:=ents) a;have:=h.len;simp;omega
 have:=Ko (ents:=d) a;have:=h.len';simp;omega
end
def OF.nil(v:jW):OF v [] [] [] []:=⟨rfl,λ_ _=>rfl,rfl,rfl,cH _,cH _⟩
def IL{p:aw × AV} : ∀ {s ops:List (aw × AV)} {ents:List (bM × AV)},tp ops ents (s++[p])=(tp ops ents s).bind λq=>if mz p.1=true/\vX q.1 q.2 p.1=0 then some (q.1++[p],yR q.2 p.1) else none
 | [],ops,ents=>by
  show(if mz p.1=true/\vX ops ents p.1=0 then tp (ops++[p]) (yR ents p.1) [] else none)=_;rfl
 | q :: s,ops,ents=>by
  simp only[Ky,tp];split;·exact IL
  rfl
end
section
def si(h:xn)(l:List (cN × AV)):Int:=l.foldl (λs p=>if p.1.kind=2/\p.1.op.h=h then p.1.op.serial else s) 0
def Ke(h:xn)(l:List (cN × AV))(p:cN × AV):si h (l++[p])=if p.1.kind=2/\p.1.op.h=h then p.1.op.serial else si h l:=by
 simp[si]
structure Ser (l:List (cN × AV)) (b:gR):Prop where
 ser : ∀h:xn,(uf (cm h b.ses)).s=si h l/\((uf (cm h b.ses)).o=false->si h l=0)
 up : ∀h:xn,0<=si h l/\si h l<16777216 /\∀p∈l,p.1.kind=2->p.1.op.h=h->p.1.op.serial<=si h l
section
variable{us0:List Clear}{qs:List ak}{gr0:Int}{l:List (cN × AV)}{b:gR}{p:cN × AV}(h:Ser l b)(a:eu p.1=true)
include h a
theorem Ser.two(x:p.1.kind=2)(y:DV us0 qs gr0 b p.1=true):Ser (l++[p]) (uB b p.1.op p.1.code (Am p.2))/\p.1.op.serial=si p.1.op.h l+1:=by
 simp only[DV,aT,iQb]at y;obtain⟨c,_,i,A,w⟩:=y;have g:mz p.1.op=true:=by
  unfold eu at a;rw[if_neg (by rw[x];decide),if_pos x]at a;simp only[aT]at a;exact a.2.1
 have z:1<=p.1.op.serial/\p.1.op.serial<16777216:=by
  simp only[mz,aT,iQb]at g;exact⟨g.2.1,g.2.2.1⟩
 have n:=(h.ser p.1.op.h).1;have u:=h.up p.1.op.h;have v:p.1.op.serial=si p.1.op.h l+1:=by
  rw[i];show IntKind.i64.wrap ((uf (cm p.1.op.h b.ses)).s+1)=_;rw[n];exact iQa _ (by omega)
 refine⟨?_,v⟩;have j : ∀d:xn,si d (l++[p])=if d=p.1.op.h then p.1.op.serial else si d l:=λd=>by
  rw[Ke];by_cases e:d=p.1.op.h;·subst e;rw[if_pos ⟨x,rfl⟩,if_pos rfl]
  rw[if_neg (λk=>e k.2.symm),if_neg e]
 refine⟨λd=>?_,λd=>?_⟩
 ·rw[j];show(uf (cm d (jQ p.1.op.h (BT.av { oc b p.1.op with s:=IntKind.i64.wrap ((oc b p.1.op).s+1)}) b.ses))).s=_/\((uf (cm d (jQ p.1.op.h (BT.av { oc b p.1.op with s:=IntKind.i64.wrap ((oc b p.1.op).s+1)}) b.ses))).o=false->_);by_cases e:d=p.1.op.h;·subst e;rw[oW,Dp,if_pos rfl];refine⟨i.symm,λk=>?_⟩;simp only at k;rw[k]at c;cases c
  rw[np e,if_neg e];exact h.ser d
 rw[j];by_cases e:d=p.1.op.h
 ·subst e;rw[if_pos rfl];refine⟨by omega,by omega,λq f t m=>?_⟩;rcases iN.1 f with f | f
  ·have:=u.2.2 q f t m;omega
  rw[nc]at f;subst f;exact Kt _
 rw[if_neg e];refine⟨(h.up d).1,(h.up d).2.1,λq f t m=>?_⟩;rcases iN.1 f with f | f
 ·exact(h.up d).2.2 q f t m
 rw[nc]at f;subst f;exact absurd m.symm e
theorem Ser.step(j:w8 us0 qs gr0 b p.1=true):Ser (l++[p]) (OH b p):=by
 unfold w8 at j;unfold OH;have f:p.1.kind≠2->(∀d,si d (l++[p])=si d l) /\∀d:xn,0<=si d l/\si d l<16777216 /\∀q∈l++[p],q.1.kind=2->q.1.op.h=d->q.1.op.serial<=si d l:=by
  intro i;refine⟨λd=>by rw[Ke,if_neg (λt=>i t.1)],λd=>⟨(h.up d).1,(h.up d).2.1,λq m n u=>?_⟩⟩;rcases iN.1 m with m | m
  ·exact(h.up d).2.2 q m n u
  rw[nc]at m;subst m;exact absurd n i
 by_cases k1:p.1.kind=1
 ·rw[if_pos k1]at j ⊢;obtain⟨g,k⟩:=f (by rw[k1];decide);simp only[FN,aT,dI]at j;refine⟨λd=>?_,λd=>by rw[g];exact k d⟩;rw[g];show(uf (cm d (jQ p.1.op.h (BT.av ⟨true,p.1.user,0⟩) b.ses))).s=si d l/\((uf (cm d (jQ p.1.op.h (BT.av ⟨true,p.1.user,0⟩) b.ses))).o=false->si d l=0);by_cases e:d=p.1.op.h;·subst e;rw[oW,Dp];exact⟨((h.ser p.1.op.h).2 j.1).symm,λh=>by cases h⟩
  rw[np e];exact h.ser d
 rw[if_neg k1]at j ⊢;by_cases i:p.1.kind=2;·rw[if_pos i]at j ⊢;exact(h.two a i j).1
 rw[if_neg i];obtain⟨g,k⟩:=f i;exact⟨λd=>by rw[g];exact h.ser d,λd=>by rw[g];exact k d⟩
end
end
end Go.Proofs.YtmkmimgokagimaaGreat
