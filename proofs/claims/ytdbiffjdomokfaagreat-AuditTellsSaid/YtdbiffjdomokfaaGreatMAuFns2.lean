/-
  The document's answers on ids, runes and operations. No statement of a seat is proved here.
-/
import Derived.Test.YtdbiffjdomokfaaGreatMLeDoc7
import Derived.Test.YtdbiffjdomokfaaGreatMLeTwin
set_option linter.unusedVariables false
set_option linter.unusedSimpArgs false
set_option linter.unusedSectionVars false
set_option linter.unnecessarySimpa false
set_option maxRecDepth 100000
namespace Go.Proofs.YtdbiffjdomokfaaGreat
open Go.Ab
attribute [local simp] aU aK aG aW aV cz lT ba aO aQ cg cf bI bc ay bE gw
@[simp] theorem PE(a:UInt8)(b:UInt32):aF env 28 [.agg [a8 a,aw b]]=some (aB (decide (a<=15))):=by
 refine aH rfl (by kernel_rfl) (qM _ _ _ λg=>?_)
 simp[af,ah,ad,ae,aa, *,mR]
@[simp] theorem JZ(a:UInt8)(b:UInt32)(n:UInt8):aF env 51 [.agg [a8 a,aw b,a8 n]]=some (aB (me ⟨a,b,n⟩)):=by
 refine aH rfl (by kernel_rfl) (tD _ _ _ λg=>?_)
 simp[af,ah,ad,ae,aa, *,m7,me]
 repeat' ((first | refine gU (λh=>?_) (λh=>?_) | refine fM (λh=>?_) (λh=>?_) | refine fN (λh=>?_) (λh=>?_) | refine fK (λh=>?_) (λh=>?_) | refine fL (λh=>?_) (λh=>?_))<;>(try simp only[decide_eq_true_eq,decide_eq_false_iff_not,dQ,ke,aZ,ff]at h)<;>(try simp[af,ah,ad,ae,aa, *]))
@[simp] theorem agp(a:UInt8)(b:UInt32)(n:UInt8)(k:Int):aF env 85 [.agg [a8 a,aw b,a8 n,aI k]]=some (aB (DZ ⟨⟨a,b,n⟩,k⟩)):=by
 refine aH rfl (by kernel_rfl) (yH _ _ _ λg=>?_)
 simp[af,ah,ad,ae,aa, *,rO,DZ]
 repeat' ((first | refine gU (λh=>?_) (λh=>?_) | refine fM (λh=>?_) (λh=>?_) | refine fN (λh=>?_) (λh=>?_) | refine fK (λh=>?_) (λh=>?_) | refine fL (λh=>?_) (λh=>?_))<;>(try simp only[decide_eq_true_eq,decide_eq_false_iff_not,dQ,ke,aZ,ff]at h)<;>(try simp[af,ah,ad,ae,aa, *]))
@[simp] theorem Zl(a:UInt8)(b:UInt32)(n:UInt8)(k m:Int):aF env 83 [.agg [a8 a,aw b,a8 n,aI k,aI m]]=some (aB (eN ⟨⟨⟨a,b,n⟩,k⟩,m⟩)):=by
 refine aH rfl (by kernel_rfl) (uN _ _ _ λg=>?_)
 cases d:DZ ⟨⟨a,b,n⟩,k⟩ with
 | false=>simp[af,ah,ad,ae,aa, *,eY,eN]
 | true=>
  have c:=I6 d
  simp only at c
  by_cases i:1<=m
  ·by_cases j:m<=64
   ·have f:=IntWalk.i64_in (1099511627777 - m) (by omega)
    have e:decide (k+m - 1<=1099511627776)=decide (k<=1099511627777 - m):=by
     by_cases h:k<=1099511627777 - m
     ·rw[decide_eq_true h,decide_eq_true (by omega)]
     ·rw[decide_eq_false h,decide_eq_false (by omega)]
    simp[af,ah,ad,ae,aa, *,eY,eN]
   ·simp[af,ah,ad,ae,aa, *,eY,eN]
  ·simp[af,ah,ad,ae,aa, *,eY,eN]
@[simp] theorem adT(a:UInt8)(b:UInt32)(n:UInt8)(k:Int):aF env 84 [.agg [a8 a,aw b,a8 n,aI k]]=some (aB (fY ⟨⟨a,b,n⟩,k⟩)):=by
 refine aH rfl (by kernel_rfl) (xG _ _ _ λg=>?_)
 simp[af,ah,ad,ae,aa, *,qu,gk,ca,fY]
@[simp] theorem ahB(n:Int):aF env 103 [aI n]=some (aB (yL n)):=by
 refine aH rfl (by kernel_rfl) (zR _ _ _ λg=>?_)
 have e:yL n=(decide (0<=n)&&(decide (n<=1114111)&&(decide (n<55296)||decide (57343<n)))):=by
  unfold yL
  rw[Fi]
  simp only[ff,aZ,decide_eq_true_eq]
  omega
 rw[e]
 simp[af,ah,ad,ae,aa, *,sx]
 repeat' ((first | refine gU (λh=>?_) (λh=>?_) | refine fM (λh=>?_) (λh=>?_) | refine fN (λh=>?_) (λh=>?_) | refine fK (λh=>?_) (λh=>?_) | refine fL (λh=>?_) (λh=>?_))<;>(try simp only[decide_eq_true_eq,decide_eq_false_iff_not,dQ,ke,aZ,ff]at h)<;>(try simp[af,ah,ad,ae,aa, *]))
theorem J8{l:List Int}{x0:AV}(d:Sl 1 (rows l) x0)(v:l.length<4611686018427387904)(q : ∀a∈l, -2147483648<=a/\a<=2147483647){Q:AV->ai->Prop}{H:ai} :
 ∀(s:List Int)(k:Nat)(i:Int),l.drop k=s->k<=l.length->i=k->(∀y,y=aI (bad (s.all oQ))->Q y H) ->
 bB env Tryz.f86 0 gR [(3,aI i),(0,x0)] H Q:=by
 intro s
 induction s with
 | nil=>
  rintro k i hs hk rfl hQ
  obtain rfl:=drop_nil hs hk
  refine nW _ _ _ _ λg=>?_
  simp[af,ah,ad,ae,aa, *,eZ,d.r]
  all_goals exact hQ _ rfl
 | cons a s j=>
  rintro k i hs hk rfl hQ
  obtain⟨o,n,f,p⟩:=drop_cons hs
  have u:=q a (by rw[<-n];exact lM _)
  refine nW _ _ _ _ λg=>?_
  have w:=IntWalk.i64_in ((k:Int)+1) (by omega)
  have t:=IntWalk.i64_in a (by omega)
  have c:oQ a=(decide (a = -1)||yL a):=by simp[oQ,yL,Bool.or_assoc]
  by_cases h:a = -1
  ·subst h
   have b : ∀y,y=aI (bad (s.all oQ))->Q y H:=λy e=>hQ y (by rw[e];simp[oQ])
   clear hQ
   simp[af,ah,ad,ae,aa, *,eZ,d.r,d.idx,aR]
   exact j (k+1) _ f (by omega) (by simp) b
  ·cases m:yL a with
   | true=>
    have b : ∀y,y=aI (bad (s.all oQ))->Q y H:=λy e=>hQ y (by rw[e];simp[c,m])
    clear hQ c
    simp[af,ah,ad,ae,aa, *,eZ,d.r,d.idx,aR]
    exact j (k+1) _ f (by omega) (by simp) b
   | false=>
    have b : ∀y,y=aI 8->Q y H:=λy e=>hQ y (by rw[e];simp[c,m,h])
    clear hQ c
    simp[af,ah,ad,ae,aa, *,eZ,d.r,d.idx,aR]
    all_goals exact b _ rfl
theorem ID{l:List Int}{x:AV}(c:Sl 1 (rows l) x)(f:l.length<4611686018427387904)(d : ∀a∈l, -2147483648<=a/\a<=2147483647):aF env 86 [x]=some (aI (A9 l)):=by
 refine aH rfl (by kernel_rfl) (wR _ _ _ λg=>?_)
 by_cases b:64<l.length
 ·have:(64:Int)<l.length:=by omega
  simp[af,ah,ad,ae,aa, *,lJ,A9,c.r]
 ·have : ¬(64:Int)<l.length:=by omega
  have e:A9 l=bad (l.all oQ):=by unfold A9 bad;rw[if_neg b]
  simp[af,ah,ad,ae,aa, *,lJ,c.r]
  exact J8 c f d l 0 _ rfl (by omega) rfl (λy e=>by simp[e])
theorem Wn(m:UInt8)(o:UInt8)(t:UInt32)(q:UInt8)(h:Int)(n:UInt8)(p:UInt32)(u:UInt8)(v:Int)(i:Int)(d:UInt8)(c:UInt32)(e:UInt8)(b:Int)(j:UInt8)(f:UInt32){x:AV}{l:List Int}(k:Sl 1 (rows l) x)(S:l.length<2000000)(M : ∀a∈l, -2147483648<=a/\a<=2147483647):aF env 52 [.agg [a8 m,a8 o,aw t,a8 q,aI h,a8 n,aw p,a8 u,aI v,aI i,a8 d,aw c,a8 e,aI b,a8 j,aw f,x]]=some (aB (mK (⟨m,⟨o,t,q⟩,h,⟨⟨⟨n,p,u⟩,v⟩,i⟩,⟨⟨d,c,e⟩,b⟩,⟨j,f⟩,l⟩:aN))):=by
 refine aH rfl (by kernel_rfl) (yD _ _ _ λg=>?_)
 have R:=ID k (by omega) M
 have O:=AU l
 unfold mK
 cases U:me ⟨o,t,q⟩ with
 | false=>simp[af,ah,ad,ae,aa, *,aT,k.r]
 | true=>
 rcases Dr h 1 with E | N
 ·have N : ¬1<=h:=by omega
  simp[af,ah,ad,ae,aa, *,aT,k.r]
 have E : ¬h<1:=by omega
 rcases Dr h 16777216 with K | D
 rotate_left
 ·have K : ¬h<16777216:=by omega
  simp[af,ah,ad,ae,aa, *,aT,k.r]
 have D : ¬16777216<=h:=by omega
 cases P:eN ⟨⟨⟨n,p,u⟩,v⟩,i⟩ with
 | false=>simp[af,ah,ad,ae,aa, *,aT,k.r]
 | true=>
 by_cases G:m=1
 ·subst G
  unfold BO
  simp only[GR,if_true]
  cases z:vN (⟨j,f⟩:ib) with
  | false=>
   unfold vN at z
   simp[af,ah,ad,ae,aa, *,aT,k.r,gk,ca]
  | true=>
   unfold vN at z
   cases H:Cy ⟨n,p,u⟩ ⟨o,t,q⟩ with
   | false=>
    unfold Cy at H
    cases y:fY (⟨⟨d,c,e⟩,b⟩:bR) with
    | false=>cases F:DZ (⟨⟨d,c,e⟩,b⟩:bR)<;>simp[af,ah,ad,ae,aa, *,aT,k.r,gk,ca]
    | true=>simp[af,ah,ad,ae,aa, *,aT,k.r,gk,ca]
   | true=>
    unfold Cy at H
    by_cases Q:(l.length:Int)=i
    ·cases y:fY (⟨⟨d,c,e⟩,b⟩:bR) with
     | false=>cases F:DZ (⟨⟨d,c,e⟩,b⟩:bR)<;>simp[af,ah,ad,ae,aa, *,aT,k.r,gk,ca]
     | true=>simp[af,ah,ad,ae,aa, *,aT,k.r,gk,ca]
    ·cases y:fY (⟨⟨d,c,e⟩,b⟩:bR) with
     | false=>cases F:DZ (⟨⟨d,c,e⟩,b⟩:bR)<;>simp[af,ah,ad,ae,aa, *,aT,k.r,gk,ca]
     | true=>simp[af,ah,ad,ae,aa, *,aT,k.r,gk,ca]
 ·by_cases w:yj (⟨m,⟨o,t,q⟩,h,⟨⟨⟨n,p,u⟩,v⟩,i⟩,⟨⟨d,c,e⟩,b⟩,⟨j,f⟩,l⟩:aN)=true
  ·have B:=w
   simp only[yj,aZ,decide_eq_true_eq]at B
   obtain⟨y,A⟩:=B
   subst A
   unfold BO
   by_cases I:m=2
   ·subst I
    simp only[MU,if_true]
    cases z:vN (⟨j,f⟩:ib) with
    | false=>
     unfold vN at z
     simp[af,ah,ad,ae,aa, *,aT,k.r,gk,ca]
    | true=>
     unfold vN at z
     simp[af,ah,ad,ae,aa, *,aT,k.r,gk,ca]
   ·by_cases J:m=3
    ·subst J
     simp only[J7,if_true]
     simp[af,ah,ad,ae,aa, *,aT,k.r,gk,ca]
    ·simp[af,ah,ad,ae,aa, *,aT,k.r,gk,ca]
  ·have T:BO (⟨m,⟨o,t,q⟩,h,⟨⟨⟨n,p,u⟩,v⟩,i⟩,⟨⟨d,c,e⟩,b⟩,⟨j,f⟩,l⟩:aN)=false:=by
    have C:yj (⟨m,⟨o,t,q⟩,h,⟨⟨⟨n,p,u⟩,v⟩,i⟩,⟨⟨d,c,e⟩,b⟩,⟨j,f⟩,l⟩:aN)=false:=by simpa using w
    unfold BO MU J7
    rw[C]
    simp[G]
   simp only[yj,aZ,decide_eq_true_eq,not_and]at w
   cases y:fY (⟨⟨d,c,e⟩,b⟩:bR) with
   | false=>
    clear w
    simp[af,ah,ad,ae,aa, *,aT,k.r,gk,ca]
   | true=>
    have A:0<l.length:=Fp.2 (w y)
    have L : ¬l=[]:=w y
    clear w
    simp[af,ah,ad,ae,aa, *,aT,k.r,gk,ca]
end Go.Proofs.YtdbiffjdomokfaaGreat
namespace Go.Proofs.YtdbiffjdomokfaaGreat
open Go.Ab
attribute [local simp] aU aK cz lT
@[simp] theorem ahz(q:aC):aF env 47 [.agg [a8 q.lv,aw q.cats,aI q.opens,aI q.ops,aI q.cells]]=some (aB (DL q)):=by
 refine aH rfl (by kernel_rfl) (yF _ _ _ λg=>?_)
 simp[af,ah,ad,ae,aa, *,rM]
 repeat' ((first | refine gU (λh=>?_) (λh=>?_) | refine fM (λh=>?_) (λh=>?_) | refine fN (λh=>?_) (λh=>?_) | refine fK (λh=>?_) (λh=>?_) | refine fL (λh=>?_) (λh=>?_))<;>(try simp only[decide_eq_true_eq,decide_eq_false_iff_not,dQ,ke,aZ,ff]at h)<;>(try simp[af,ah,ad,ae,aa, *,DL]))
def M8(b:UInt32)(n:Nat):Bool:=decide ((b >>> UInt32.ofNat n) % 2=1)
@[simp] theorem aih(a:UInt8)(b:UInt32)(n:Nat)(e:n<32):aF env 62 [.agg [a8 a,aw b],aI n]=some (aB (M8 b n)):=by
 refine aH rfl (by kernel_rfl) (yJ _ _ _ _ λg=>?_)
 have c:(n:Int)<=4294967296:=by omega
 have d:(n:Int)<32:=by omega
 simp[af,ah,ad,ae,aa, *,rQ,M8]
def q7(b d:UInt32):Nat->Nat->Bool
 | 0,_=>true
 | m+1,n => !(M8 b n && !M8 d n)&&q7 b d m (n+1)
theorem Rd{a c:UInt8}{b d:UInt32}{r1 r2:Ref}{Q:AV->ai->Prop} : ∀(m n:Nat)(i:Int)(H:ai),n+m=32->i=n->Fr H->H.get r1=some ⟨2,[.agg [a8 a,aw b]],false,false⟩->H.get r2=some ⟨2,[.agg [a8 c,aw d]],false,false⟩ ->
 (∀y H',y=aB (q7 b d m n&&decide (a<=c))->Q y H') ->
 bB env Tryz.f39 0 jc [(5,aI i),(3,.ptr r2 0 0),(2,.ptr r1 0 0)] H Q:=by
 intro m
 induction m with
 | zero=>
  rintro n i H hn rfl hF h1 h2 hQ
  obtain rfl:n=32:=by omega
  refine pb _ _ _ _ _ λg=>?_
  simp[af,ah,ad,ae,aa, *,lK]
  all_goals (first | exact hQ _ _ rfl | exact hQ _ _ (by simp[*,q7]))
 | succ m o=>
  rintro n i H hn rfl hF h1 h2 hQ
  have p:n<32:=by omega
  have l:(n:Int)<32:=by omega
  refine pb _ _ _ _ _ λg=>?_
  simp[af,ah,ad,ae,aa, *,lK]
  have e:=IntWalk.i64_in ((n:Int)+1) (by omega)
  have f:=o (n+1) _ H (by omega) rfl hF h1 h2
  cases j:M8 b n<;>cases k:M8 d n
  ·simp[*];exact f λy H' h=>hQ y H' (by simp[h,q7,j,k])
  ·simp[*];exact f λy H' h=>hQ y H' (by simp[h,q7,j,k])
  ·simp[*];exact hQ _ _ (by simp[q7,j,k])
  ·simp[*];exact f λy H' h=>hQ y H' (by simp[h,q7,j,k])
theorem Vg(b:UInt32)(n:Nat)(c:n<32):M8 b n=b.toBitVec.getLsbD n:=by
 unfold M8
 have a:((b >>> UInt32.ofNat n) % 2=1)↔((b >>> UInt32.ofNat n) % 2).toNat=1:=by rw[<-FI];rfl
 rw[Fi,decide_eq_true_eq,a,UInt32.toNat_mod,UInt32.toNat_shiftRight,UInt32.toNat_ofNat',BitVec.getLsbD,Nat.testBit_eq_decide_div_mod_eq,Nat.shiftRight_eq_div_pow,decide_eq_true_eq]
 have:n % 2 ^ 32 % 32=n:=by omega
 rw[this]
 rfl
theorem Mf(b d:UInt32) : ∀(m n:Nat),n+m=32->(q7 b d m n=true ↔ ∀k,n<=k->k<32->(b.toBitVec &&& ~~~d.toBitVec).getLsbD k=false):=by
 intro m
 induction m with
 | zero=>intro n i;simp only[q7,true_iff];intro k f c;omega
 | succ m g=>
  intro n i
  have a:n<32:=by omega
  simp only[q7,aZ,g (n+1) (by omega),Vg _ _ a]
  constructor
  ·rintro⟨f,c⟩ k hk hk2
   by_cases e:k=n
   ·subst e
    simp only[Jx,Jw,hk2,decide_true,nu]
    revert f
    cases b.toBitVec.getLsbD k<;>cases d.toBitVec.getLsbD k<;>simp
   ·exact c k (by omega) hk2
  ·intro h
   refine⟨?_,λk f c=>h k (by omega) c⟩
   have:=h n (bD _) a
   simp only[Jx,Jw,a,decide_true,nu]at this
   revert this
   cases b.toBitVec.getLsbD n<;>cases d.toBitVec.getLsbD n<;>simp
theorem Mg(b d:UInt32):q7 b d 32 0=decide (b &&& ~~~d=0):=by
 rw[Fi,Mf b d 32 0 (by omega),decide_eq_true_eq]
 constructor
 ·intro h
  apply UInt32.toBitVec_inj.1
  apply BitVec.eq_of_getLsbD_eq
  intro i a
  simpa using h i (by omega) a
 ·intro h k _ _
  have:=congrArg UInt32.toBitVec h
  simp only[NB,NA]at this
  rw[this];simp
theorem J0(a:UInt8)(b:UInt32)(c:UInt8)(d:UInt32):aF env 39 [.agg [a8 a,aw b],.agg [a8 c,aw d]]=some (aB (UH a b c d)):=by
 refine aH rfl (by kernel_rfl) (yK _ _ _ _ λg=>?_)
 simp[af,ah,ad,ae,aa, *,rR]
 exact Rd (a:=a) (b:=b) (c:=c) (d:=d) 32 0 _ _ rfl rfl (by simp(maxDischargeDepth:=12) [an,aj,Fr.nil,au,af,ah,ad,ae,ao,ak,aa, *]) (by simp(maxDischargeDepth:=12) [an,aj,Fr.nil,au,af,ah,ad,ae,ao,ak,aa, *]) (by simp(maxDischargeDepth:=12) [an,aj,Fr.nil,au,af,ah,ad,ae,ao,ak,aa, *]) λy H' e=>by simp[e,Mg,UH,Bool.and_comm]
attribute [local simp] J0
@[simp] theorem adS(a:UInt8)(b:UInt32)(c:UInt8)(d:UInt32):aF env 48 [.agg [a8 a,aw b],.agg [a8 c,aw d]]=some (aB (Ho a b c d)):=by
 refine aH rfl (by kernel_rfl) (wS _ _ _ _ λg=>?_)
 have f:=a.toNat_lt
 have h:=b.toNat_lt
 have e:=c.toNat_lt
 have i:=d.toNat_lt
 have m:IntKind.i64.wrap ((a.toNat:Int) * 4294967296)=(a.toNat:Int) * 4294967296:=IntWalk.i64_in _ (by omega)
 have j:IntKind.i64.wrap ((c.toNat:Int) * 4294967296)=(c.toNat:Int) * 4294967296:=IntWalk.i64_in _ (by omega)
 have k:IntKind.i64.wrap ((a.toNat:Int) * 4294967296+b.toNat)=(a.toNat:Int) * 4294967296+b.toNat:=IntWalk.i64_in _ (by omega)
 have l:IntKind.i64.wrap ((c.toNat:Int) * 4294967296+d.toNat)=(c.toNat:Int) * 4294967296+d.toNat:=IntWalk.i64_in _ (by omega)
 simp[af,ah,ad,ae,aa, *,pI,Ho]
 rw[Fi]
 simp only[ff,aZ,decide_eq_true_eq,NJ,UInt32.lt_iff_toNat_lt,<-Be]
 omega
end Go.Proofs.YtdbiffjdomokfaaGreat
namespace Go.Proofs.YtdbiffjdomokfaaGreat
open Go.Ab
attribute [local simp] aU aK cz lT
attribute [local simp] J0
def afr(n:Int)(q:aC):Int:=IntKind.i64.wrap (IntKind.i64.wrap (n+q.opens)+IntKind.i64.wrap (4 * q.ops))
def LB(n:Int)(l:List aC):Int:=l.foldl afr n
def Y3(n:Int)(q:aC):Int:=IntKind.i64.wrap (n+q.cells)
def BM(n:Int)(l:List aC):Int:=l.foldl Y3 n
theorem On(n:Int):BM n []=n:=id rfl
section
variable{xu xq:AV}{us:List Clear}{qs:List aC}{gr:Int}(hu:Sl 3 (cW us) xu)(hq:Sl 5 (cN qs) xq)(hql:qs.length<4611686018427387904)(hul:us.length<4611686018427387904)
include hu hq hql hul
theorem Q9{r1:Ref}{Q:AV->ai->Prop} : ∀(s:List aC)(k:Nat)(i n:Int)(H:ai),qs.drop k=s->k<=qs.length->i=k ->
 Fr H->H.get r1=some ⟨3,[.agg [xu,xq,aI gr]],false,false⟩->(∀y H',y=aI (LB n s)->Q y H') ->
 bB env Tryz.f49 0 ja [(4,aI i),(1,.ptr r1 0 0),(3,aI n)] H Q:=by
 intro s
 induction s with
 | nil=>
  rintro k i n H hs hk rfl hF hB hQ
  obtain rfl:=drop_nil hs hk
  refine o9 _ _ _ _ _ λg=>?_
  simp[af,ah,ad,ae,aa, *,lH,hq.r]
  all_goals (first | exact hQ _ _ rfl | exact hQ _ _ (by simp[*]))
 | cons q s b=>
  rintro k i n H hs hk rfl hF hB hQ
  obtain⟨c,e,a,d⟩:=drop_cons hs
  refine o9 _ _ _ _ _ λg=>?_
  simp[af,ah,ad,ae,aa, *,lH,hq.r,hq.idx,aC.enc,IntWalk.i64_in ((k:Int)+1) (by omega)]
  exact b (k+1) _ _ _ a (by omega) (by simp) hF hB hQ
@[simp] theorem adQ:aF env 49 [.agg [xu,xq,aI gr]]=some (aI (LB gr qs)):=by
 refine aH rfl (by kernel_rfl) (yG _ _ _ λg=>?_)
 simp[af,ah,ad,ae,aa, *,rN,hu.r,hq.r]
 exact Q9 (gr:=gr) hu hq hql hul qs 0 _ _ _ rfl (by omega) rfl (by simp(maxDischargeDepth:=12) [an,aj,Fr.nil,au,af,ah,ad,ae,ao,ak,aa, *]) (by simp(maxDischargeDepth:=12) [an,aj,Fr.nil,au,af,ah,ad,ae,ao,ak,aa, *]) λy H' e=>by simp[e]
theorem Ww{r1:Ref}{Q:AV->ai->Prop} : ∀(s:List aC)(k:Nat)(i n:Int)(H:ai),qs.drop k=s->k<=qs.length->i=k ->
 Fr H->H.get r1=some ⟨3,[.agg [xu,xq,aI gr]],false,false⟩->(∀y H',y=aB (decide (LB gr qs<=2048)&&decide (BM n s<=8192))->Q y H') ->
 bB env Tryz.f36 0 gq [(6,aI i),(1,.ptr r1 0 0),(5,aI n)] H Q:=by
 intro s
 induction s with
 | nil=>
  rintro k i n H hs hk rfl hF hB hQ
  obtain rfl:=drop_nil hs hk
  refine nA _ _ _ _ _ λg=>?_
  have:=adQ (gr:=gr) hu hq hql hul
  simp[af,ah,ad,ae,aa, *,kb,hq.r,hu.r]
  repeat' ((first | refine gU (λh=>?_) (λh=>?_) | refine fM (λh=>?_) (λh=>?_) | refine fN (λh=>?_) (λh=>?_) | refine fK (λh=>?_) (λh=>?_) | refine fL (λh=>?_) (λh=>?_))<;>(try simp only[decide_eq_true_eq,decide_eq_false_iff_not,dQ,ke,aZ,ff]at h)<;>(try simp[af,ah,ad,ae,aa, *,hq.r,hu.r]))
  all_goals (first | exact hQ _ _ rfl | exact hQ _ _ (by simp[*,On]))
 | cons q s c=>
  rintro k i n H hs hk rfl hF hB hQ
  obtain⟨b,e,a,d⟩:=drop_cons hs
  refine nA _ _ _ _ _ λg=>?_
  simp[af,ah,ad,ae,aa, *,kb,hq.r,hq.idx,aC.enc,IntWalk.i64_in ((k:Int)+1) (by omega)]
  exact c (k+1) _ _ _ a (by omega) (by simp) hF hB hQ
theorem Zp{r1:Ref}{Q:AV->ai->Prop} : ∀(s:List aC)(k:Nat)(i:Int)(H:ai),qs.drop k=s->k<=qs.length->i=k ->
 Fr H->H.get r1=some ⟨3,[.agg [xu,xq,aI gr]],false,false⟩->(∀y H',y=aB (yU (if k=0 then none else qs[k - 1]?) s&&(decide (LB gr qs<=2048)&&decide (BM 0 qs<=8192)))->Q y H') ->
 bB env Tryz.f36 0 gO [(4,aI i),(1,.ptr r1 0 0)] H Q:=by
 intro s
 induction s with
 | nil=>
  rintro k i H hs hk rfl b c hQ
  obtain rfl:=drop_nil hs hk
  refine nU _ _ _ _ λg=>?_
  simp[af,ah,ad,ae,aa, *,hU,hq.r]
  exact Ww (gr:=gr) hu hq hql hul qs 0 _ _ _ rfl (by omega) rfl b c λy H' e=>hQ _ _ (by simp[e,yU])
 | cons q s n=>
  rintro k i H hs hk rfl b c hQ
  obtain⟨f,v,a,o⟩:=drop_cons hs
  have d:=n (k+1)
  refine nU _ _ _ _ λg=>?_
  cases k with
  | zero=>
   have j:IntKind.i64.wrap 1=1:=rfl
   simp[af,ah,ad,ae,aa, *,hU,hq.r,hq.idx,aC.enc]
   repeat' ((first | refine gU (λh=>?_) (λh=>?_) | refine fM (λh=>?_) (λh=>?_) | refine fN (λh=>?_) (λh=>?_) | refine fK (λh=>?_) (λh=>?_) | refine fL (λh=>?_) (λh=>?_))<;>(try simp only[decide_eq_true_eq,decide_eq_false_iff_not,dQ,ke,aZ,ff]at h)<;>(try simp[af,ah,ad,ae,aa, *,hq.r,hq.idx]))
   ·all_goals (first | exact hQ _ _ rfl | exact hQ _ _ (by simp[*,yU]))
   ·exact d _ _ a (by omega) rfl b c λy H' e=>hQ y H' (by simpa [*,yU] using e)
  | succ k=>
   have j:IntKind.i64.wrap ((k:Int)+1+1)=(k:Int)+1+1:=IntWalk.i64_in _ (by omega)
   have p:IntKind.i64.wrap (k:Int)=k:=IntWalk.i64_in _ (by omega)
   have u : ¬(k:Int)+1=0:=by omega
   have m:k<qs.length:=by omega
   have w:(k:Int)+1<qs.length:=by omega
   have x:(0:Int)<=k+1:=by omega
   have z:(0:Int)<(k:Int)+1:=by omega
   have t:(k:Int)<qs.length:=by omega
   have l:qs[k]?=some qs[k]:=eC m
   simp[af,ah,ad,ae,aa, *,hU,hq.r,hq.idx,aC.enc]
   repeat' ((first | refine gU (λh=>?_) (λh=>?_) | refine fM (λh=>?_) (λh=>?_) | refine fN (λh=>?_) (λh=>?_) | refine fK (λh=>?_) (λh=>?_) | refine fL (λh=>?_) (λh=>?_))<;>(try simp only[decide_eq_true_eq,decide_eq_false_iff_not,dQ,ke,aZ,ff]at h)<;>(try simp[af,ah,ad,ae,aa, *,hq.r,hq.idx,aC.enc]))
   all_goals first
    | exact hQ _ _ (by simp[*,yU,CH])
    | exact d _ _ a (by omega) (by simp) b c λy H' e=>hQ y H' (by simpa [*,yU,CH] using e)
    | skip
theorem Zq{r1:Ref}{Q:AV->ai->Prop} : ∀(s:List Clear)(k:Nat)(i:Int)(H:ai),us.drop k=s->k<=us.length->i=k ->
 Fr H->H.get r1=some ⟨3,[.agg [xu,xq,aI gr]],false,false⟩->(∀y H',y=aB (s.all (λc=>ox c.lv c.cats c.ok)&&(yU none qs&&(decide (LB gr qs<=2048)&&decide (BM 0 qs<=8192))))->Q y H') ->
 bB env Tryz.f36 0 gP [(3,aI i),(1,.ptr r1 0 0)] H Q:=by
 intro s
 induction s with
 | nil=>
  rintro k i H hs hk rfl hF hB hQ
  obtain rfl:=drop_nil hs hk
  refine nV _ _ _ _ λg=>?_
  simp[af,ah,ad,ae,aa, *,kG,hu.r]
  exact Zp (gr:=gr) hu hq hql hul qs 0 _ _ rfl (by omega) rfl hF hB λy H' e=>hQ _ _ (by simp[e])
 | cons c s d=>
  rintro k i H hs hk rfl hF hB hQ
  obtain⟨b,j,a,f⟩:=drop_cons hs
  refine nV _ _ _ _ λg=>?_
  simp[af,ah,ad,ae,aa, *,kG,hu.r,hu.idx,Clear.enc,IntWalk.i64_in ((k:Int)+1) (by omega)]
  repeat' ((first | refine gU (λh=>?_) (λh=>?_) | refine fM (λh=>?_) (λh=>?_) | refine fN (λh=>?_) (λh=>?_) | refine fK (λh=>?_) (λh=>?_) | refine fL (λh=>?_) (λh=>?_))<;>(try simp only[decide_eq_true_eq,decide_eq_false_iff_not,dQ,ke,aZ,ff]at h)<;>(try simp[af,ah,ad,ae,aa, *,hu.r,IntWalk.i64_in ((k:Int)+1) (by omega)]))
  exact d (k+1) _ _ a (by omega) (by simp) hF hB λy H' e=>hQ y H' (by simpa [*] using e)
def Gw(us:List Clear)(qs:List aC)(gr:Int):Bool:=
 (!decide (8<us.length)&&(!decide (8<qs.length)&&(!decide (gr<0) && !decide (64<gr))))&&(us.all (λc=>ox c.lv c.cats c.ok)&&(yU none qs&&(decide (LB gr qs<=2048)&&decide (BM 0 qs<=8192))))
theorem Tb:aF env 36 [.agg [xu,xq,aI gr]]=some (aB (Gw us qs gr)):=by
 refine aH rfl (by kernel_rfl) (wO _ _ _ λg=>?_)
 have e8 (n:Nat):((8:Int)<(n:Int))↔8<n:=by omega
 simp[af,ah,ad,ae,aa, *,pG,hu.r,hq.r]
 repeat' ((first | refine gU (λh=>?_) (λh=>?_) | refine fM (λh=>?_) (λh=>?_) | refine fN (λh=>?_) (λh=>?_) | refine fK (λh=>?_) (λh=>?_) | refine fL (λh=>?_) (λh=>?_))<;>(try simp only[decide_eq_true_eq,decide_eq_false_iff_not,dQ,ke,aZ,ff]at h)<;>(try simp[af,ah,ad,ae,aa, *,hu.r,hq.r,Gw]))
 refine Zq (gr:=gr) hu hq hql hul us 0 _ _ rfl (by omega) rfl (by simp(maxDischargeDepth:=12) [an,aj,Fr.nil,au,af,ah,ad,ae,ao,ak,aa, *]) (by simp(maxDischargeDepth:=12) [an,aj,Fr.nil,au,af,ah,ad,ae,ao,ak,aa, *]) λy H' e=>?_
 simp[*,Gw]
omit hu hq in
theorem TE : ∀ {l:List aC} {n:Int},(∀q∈l,DL q=true)->0<=n->n+1088 * l.length<=4611686018427387904->LB n l=EW n l:=by
 intro l
 induction l with
 | nil=>intro n _ e a;rfl
 | cons q l b=>
  intro n h e a
  have hq:=E7 (h q (gG ..))
  simp only[nx]at a
  have d:IntKind.i64.wrap (4 * q.ops)=4 * q.ops:=IntWalk.i64_in _ (by omega)
  have c:IntKind.i64.wrap (n+q.opens)=n+q.opens:=IntWalk.i64_in _ (by omega)
  have g:IntKind.i64.wrap (n+q.opens+4 * q.ops)=n+q.opens+4 * q.ops:=IntWalk.i64_in _ (by omega)
  have:=b (n:=n+q.opens+4 * q.ops) (λx f=>h x (fW _ f)) (by omega) (by omega)
  simp only[LB,EW,vO,afr,d,c,g]at this ⊢
  exact this
omit hu hq in
theorem Om : ∀ {l:List aC} {n:Int},(∀q∈l,DL q=true)->0<=n->n+4096 * l.length<=4611686018427387904->BM n l=SS n l:=by
 intro l
 induction l with
 | nil=>intro n _ c a;rfl
 | cons q l b=>
  intro n h c a
  have hq:=E7 (h q (gG ..))
  simp only[nx]at a
  have e:IntKind.i64.wrap (n+q.cells)=n+q.cells:=IntWalk.i64_in _ (by omega)
  have:=b (n:=n+q.cells) (λx d=>h x (fW _ d)) (by omega) (by omega)
  simp only[BM,SS,vO,Y3,e]at this ⊢
  exact this
omit hu hq in
theorem Re:Gw us qs gr=tY us qs gr:=by
 rw[LW,Gw]
 by_cases e:us.length<=8
 ·by_cases f:qs.length<=8
  ·by_cases c:0<=gr/\gr<=64
   ·cases j:yU none qs with
    | false=>simp
    | true=>
     have d:=LK j
     rw[TE hql hul d c.1 (by omega),Om hql hul d (by omega) (by omega)]
     have b : ¬8<us.length:=by omega
     have a : ¬8<qs.length:=by omega
     have i : ¬gr<0:=by omega
     have h : ¬64<gr:=by omega
     simp[e,f,c,b,a,i,h]
   ·have:(decide (0<=gr)&&decide (gr<=64))=false:=by simp;omega
    have g:(!decide (gr<0) && !decide (64<gr))=false:=by simp;omega
    simp[this,g]
  ·have a:8<qs.length:=by omega
   simp[f,a]
 ·have b:8<us.length:=by omega
  simp[e,b]
@[simp] theorem Wj:aF env 36 [.agg [xu,xq,aI gr]]=some (aB (tY us qs gr)):=by
 rw[Tb hu hq hql hul,Re hql hul]
@[simp] theorem PI(c:Int)(a:UInt8)(b:UInt32):aF env 58 [.agg [xu,xq,aI gr],aI c,.agg [a8 a,aw b]]=some (aB (oY us c a b)):=by
 refine aH rfl (by kernel_rfl) (wP _ _ _ _ _ λg=>?_)
 by_cases d:0<=c/\c<us.length
 ·obtain⟨n,rfl⟩:=KS d.1
  have e:n<us.length:=by omega
  simp[af,ah,ad,ae,aa, *,lI,hu.r,hq.r,hu.idx,oY,Clear.enc]
  repeat' ((first | refine gU (λh=>?_) (λh=>?_) | refine fM (λh=>?_) (λh=>?_) | refine fN (λh=>?_) (λh=>?_) | refine fK (λh=>?_) (λh=>?_) | refine fL (λh=>?_) (λh=>?_))<;>(try simp only[decide_eq_true_eq,decide_eq_false_iff_not,dQ,ke,aZ,ff]at h)<;>(try simp[af,ah,ad,ae,aa, *,hu.r,hq.r,hu.idx,oY,Clear.enc]))
 ·have f:0<=c ->¬c<us.length:=by omega
  simp[af,ah,ad,ae,aa, *,lI,hu.r,hq.r,hu.idx,oY,Clear.enc]
  repeat' ((first | refine gU (λh=>?_) (λh=>?_) | refine fM (λh=>?_) (λh=>?_) | refine fN (λh=>?_) (λh=>?_) | refine fK (λh=>?_) (λh=>?_) | refine fL (λh=>?_) (λh=>?_))<;>(try simp only[decide_eq_true_eq,decide_eq_false_iff_not,dQ,ke,aZ,ff]at h)<;>(try simp[af,ah,ad,ae,aa, *,hu.r,hq.r,hu.idx,oY,Clear.enc]))
end
end Go.Proofs.YtdbiffjdomokfaaGreat
namespace Go.Proofs.YtdbiffjdomokfaaGreat
open Go.Ab
attribute [local simp] aU aK aG aW aV cz lT ba aO aQ cg cf bI bc ay bE gw
theorem E5(a:UInt8)(b:UInt32)(c:UInt8)(d:UInt32):aF env 39 [.agg [a8 a,aw b],.agg [a8 c,aw d]]=some (aB (nK ⟨a,b⟩ ⟨c,d⟩)):=J0 a b c d
attribute [local simp] E5
theorem Ti(a:UInt8)(d:UInt32)(c:UInt8)(b:Int)(k:Int)(f:UInt8)(h:UInt32)(i:UInt8)(j:Int)(l:eN (⟨⟨⟨a,d,c⟩,b⟩,k⟩:vu)=true):aF env 163 [.agg [a8 a,aw d,a8 c,aI b,aI k],.agg [a8 f,aw h,a8 i,aI j]]=some (aB (hasB (⟨⟨⟨a,d,c⟩,b⟩,k⟩:vu) (⟨⟨f,h,i⟩,j⟩:bR))):=by
 refine aH rfl (by kernel_rfl) (yz _ _ _ _ λg=>?_)
 have m:=gp l
 simp only at m
 have p:=IntWalk.i64_in (b+k) (by omega)
 have n:decide ((⟨a,d,c⟩:vI)=⟨f,h,i⟩)=(decide (a=f)&&decide (d=h)&&decide (c=i)):=by
  simp[zr]
 have e:hasB (⟨⟨⟨a,d,c⟩,b⟩,k⟩:vu) (⟨⟨f,h,i⟩,j⟩:bR)=((decide (a=f)&&decide (d=h)&&decide (c=i))&&(decide (b<=j)&&decide (j<b+k))):=by
  rw[<-n];simp only[hasB,l,nu]
 rw[e]
 clear e n m
 cases o:(decide (a=f)&&decide (d=h)&&decide (c=i)) with
 | false=>simp[af,ah,ad,ae,aa, *,jZ,gk,ca]
 | true=>
  by_cases q:b<=j
  ·simp[af,ah,ad,ae,aa, *,jZ,gk,ca]
  ·simp[af,ah,ad,ae,aa, *,jZ,gk,ca]
theorem Pj{x0:AV}{Q:AV->ai->Prop}{l:List ib}(f:Sl 2 (jU l) x0)(w:l.length<4611686018427387904){a:UInt8}{b:UInt32}{r3:Ref}{H:ai}(v:H.get r3=some ⟨2,[.agg [a8 a,aw b]],false,false⟩) :
 ∀(s:List ib)(k:Nat)(i:Int),l.drop k=s->k<=l.length->i=k->(∀y,y=aB (decide ((⟨a,b⟩:ib)∈s))->Q y H) ->
 bB env Tryz.f126 0 gK [(5,aI i),(3,.ptr r3 0 0),(0,x0)] H Q:=by
 intro s
 induction s with
 | nil=>
  rintro k i hs hk rfl hQ
  obtain rfl:=drop_nil hs hk
  refine nR _ _ _ _ _ λg=>?_
  simp[af,ah,ad,ae,aa, *,gX,f.len]
  all_goals exact hQ _ (by simp)
 | cons t s p=>
  rintro k i hs hk rfl hQ
  obtain⟨t1,t2⟩:=t
  obtain⟨o,u,j,q⟩:=drop_cons hs
  refine nR _ _ _ _ _ λg=>?_
  have x:=IntWalk.i64_in ((k:Int)+1) (by omega)
  have d:((⟨a,b⟩:ib)=⟨t1,t2⟩)=((decide (t1=a)&&decide (t2=b))=true):=by
   rw[eq_iff_iff]
   simp only[ib.mk.injEq,aZ,decide_eq_true_eq]
   exact⟨λh=>⟨h.1.symm,h.2.symm⟩,λh=>⟨h.1.symm,h.2.symm⟩⟩
  cases n:(decide (t1=a)&&decide (t2=b)) with
  | true=>
   rw[n]at d
   have c : ∀y,y=aB true->Q y H:=λy e=>hQ y (by rw[e,decide_eq_true (by rw[nw];exact .inl (by rw[d]))])
   clear d hQ
   simp[af,ah,ad,ae,aa, *,gX,f.len,f.idx,jU,gk,ca]
   all_goals exact c _ rfl
  | false=>
   rw[n]at d
   have m : ¬(⟨a,b⟩:ib)=⟨t1,t2⟩:=by rw[d];simp
   have c : ∀y,y=aB (decide ((⟨a,b⟩:ib)∈s))->Q y H:=λy e=>hQ y (by rw[e];exact congrArg aB (decide_eq_decide.2 ⟨fW _,λh=>(nw.1 h).resolve_left m⟩))
   clear d hQ m
   simp[af,ah,ad,ae,aa, *,gX,f.len,f.idx,jU,gk,ca]
   exact p (k+1) _ j (by omega) (by simp) c
theorem PD{x:AV}{l:List ib}(c:Sl 2 (jU l) x)(d:l.length<4611686018427387904)(a:UInt8)(b:UInt32):aF env 126 [x,.agg [a8 a,aw b]]=some (aB (decide (⟨a,b⟩∈l))):=by
 refine aH rfl (by kernel_rfl) (wL _ _ _ _ λg=>?_)
 simp[af,ah,ad,ae,aa, *,pD,c.r]
 exact Pj c d (a:=a) (b:=b) (by simp) l 0 _ rfl (by omega) rfl (λy e=>by simp[e])
def iv(l:List aN)(i:bR)(v:ib):List ib:=(l.filter λo=>jT o i v).map (·.to)
theorem CE(o:aN)(l:List aN)(i:bR)(v:ib):iv (o :: l) i v=if jT o i v then o.to :: iv l i v else iv l i v:=by
 unfold iv
 rw[o4]
 split<;>simp_all
theorem Kk(l:List aN)(i:bR)(v:ib) : ∀out,uZ out l i v=(iv l i v).foldl rW out:=by
 induction l with
 | nil=>intro out;rfl
 | cons o l a=>
  intro out
  show uZ (if jT o i v then rW out o.to else out) l i v=_
  rw[a,CE]
  split<;>rfl
theorem LJ(l:List aN)(i:bR)(v:ib):(iv l i v).length<=l.length:=by
 unfold iv;rw[p7];exact Im _ _
theorem J3{l:List (aN × AV)}{x0:AV}(D:Sl 17 (cD l) x0)(S : ∀p∈l,HT p)(Y : ∀p∈l,eN p.1.s=true)(hl:l.length<100000)(d:UInt8)(c:UInt32)(f:UInt8)(j:Int)(v1:UInt8)(v2:UInt32){r4 r5:Ref}{Q:AV->ai->Prop}
 (X:r4.t=4) (hn5:r5.t=5) :
 ∀(s:List (aN × AV)) (k:Nat) (i:Int) (acc:List ib) (K:AV) (H:ai),l.drop k=s->k<=l.length->i=k->acc.length<=k->Fr H->H.get r4=some ⟨4,[.agg [a8 d,aw c,a8 f,aI j]],false,false⟩->H.get r5=some ⟨2,[.agg [a8 v1,aw v2]],false,false⟩->tz [47] 2 (jU acc) H K->(acc=[]->K=bZ) ->
 (∀y H',tz [47] 2 (jU (acc++iv (opsOf s) (⟨⟨d,c,f⟩,j⟩:bR) ⟨v1,v2⟩)) H' y->(acc++iv (opsOf s) (⟨⟨d,c,f⟩,j⟩:bR) ⟨v1,v2⟩=[]->y=bZ)->Q y H') ->
 bB env Tryz.f144 0 eH [(8,aI i),(0,x0),(7,K),(5,.ptr r5 0 0),(4,.ptr r4 0 0)] H Q:=by
 intro s
 induction s with
 | nil=>
  rintro k i acc K H hs hk rfl ha hF h4 h5 hO hN hQ
  obtain rfl:=drop_nil hs hk
  refine nz _ _ _ _ _ _ _ λg=>?_
  have F:=hQ K H (by simpa [opsOf,iv] using hO) (by simpa [opsOf,iv] using hN)
  clear hO hQ hN
  simp[af,ah,ad,ae,aa, *,cO,D.r]
  all_goals exact F
 | cons p s P=>
  rintro k i acc K H hs hk rfl ha hF h4 h5 hO hN hQ
  obtain⟨hlt,hg,J,hg'⟩:=drop_cons hs
  have hp:=S p (by rw[<-hg];exact lM _)
  have R:=Y p (by rw[<-hg];exact lM _)
  obtain⟨⟨I,⟨G,L,N⟩,M,⟨⟨⟨o,B,v⟩,w⟩,m⟩,⟨⟨A,z,C⟩,q⟩,⟨b,a⟩,W⟩,x⟩:=p
  obtain⟨n,T⟩:=hp
  simp only at n T R
  have hh:=Ti o B v w m d c f j R
  have e3:=IntWalk.i64_in ((k:Int)+1) (by omega)
  have u:iv (opsOf (((⟨I,⟨G,L,N⟩,M,⟨⟨⟨o,B,v⟩,w⟩,m⟩,⟨⟨A,z,C⟩,q⟩,⟨b,a⟩,W⟩:aN),x) :: s)) (⟨⟨d,c,f⟩,j⟩:bR) ⟨v1,v2⟩=if jT (⟨I,⟨G,L,N⟩,M,⟨⟨⟨o,B,v⟩,w⟩,m⟩,⟨⟨A,z,C⟩,q⟩,⟨b,a⟩,W⟩:aN) (⟨⟨d,c,f⟩,j⟩:bR) ⟨v1,v2⟩ then ⟨b,a⟩ :: iv (opsOf s) (⟨⟨d,c,f⟩,j⟩:bR) ⟨v1,v2⟩ else iv (opsOf s) (⟨⟨d,c,f⟩,j⟩:bR) ⟨v1,v2⟩:=CE _ _ _ _
  rw[u]at hQ
  clear u
  refine nz _ _ _ _ _ _ _ λg=>?_
  cases E:jT (⟨I,⟨G,L,N⟩,M,⟨⟨⟨o,B,v⟩,w⟩,m⟩,⟨⟨A,z,C⟩,q⟩,⟨b,a⟩,W⟩:aN) (⟨⟨d,c,f⟩,j⟩:bR) ⟨v1,v2⟩ with
  | false=>
   rw[E,if_neg (by decide)]at hQ
   by_cases Z:I=3
   ·subst Z
    cases hb:hasB ⟨⟨⟨o,B,v⟩,w⟩,m⟩ (⟨⟨d,c,f⟩,j⟩:bR) with
    | false=>
     clear E
     simp[af,ah,ad,ae,aa, *,cO,D.r,D.idx,cD,y6,n.r]
     exact P (k+1) _ acc K _ J (by omega) (by simp) (by omega) hF h4 h5 hO hN hQ
    | true=>
     have hq:nK ⟨G,L⟩ ⟨v1,v2⟩=false:=by
      simp only[jT,hb,decide_true,nu,KC]at E;exact E
     clear E
     simp[af,ah,ad,ae,aa, *,cO,D.r,D.idx,cD,y6,n.r]
     exact P (k+1) _ acc K _ J (by omega) (by simp) (by omega) hF h4 h5 hO hN hQ
   ·clear E
    simp[af,ah,ad,ae,aa, *,cO,D.r,D.idx,cD,y6,n.r]
    exact P (k+1) _ acc K _ J (by omega) (by simp) (by omega) hF h4 h5 hO hN hQ
  | true=>
   rw[E,if_pos rfl]at hQ
   simp only[jT,aZ,decide_eq_true_eq,KC]at E
   obtain⟨Z,hb,hq⟩:=E
   subst Z
   have F : ∀y H',tz [47] 2 (jU ((acc++[⟨b,a⟩])++iv (opsOf s) (⟨⟨d,c,f⟩,j⟩:bR) ⟨v1,v2⟩)) H' y->(((acc++[⟨b,a⟩])++iv (opsOf s) (⟨⟨d,c,f⟩,j⟩:bR) ⟨v1,v2⟩)=[]->y=bZ)->Q y H':=λy H' h hn=>hQ y H' (by simpa using h) (λe=>by simp at e)
   clear hQ hN
   have O:=λV H'=>P (k+1) ((k:Int)+1) (acc++[⟨b,a⟩]) V H' J (by omega) (by simp) (by simp;omega)
   clear P
   have l4:(H.get r4).isSome=true:=by rw[h4];rfl
   have l5:(H.get r5).isSome=true:=by rw[h5];rfl
   rcases hO with ⟨rfl,hz⟩ | ⟨t,gg,ht,rfl,hrr⟩
   ·have U:acc=[]:=by simpa using hz
    subst U
    have hO0 : ∀(x:AV)(H':ai),tz [47] 2 (jU [⟨b,a⟩]) H' x->tz [47] 2 (jU ([]++[⟨b,a⟩])) H' x:=λx H' h=>h
    simp[af,ah,ad,ae,aa, *,cO,D.r,D.idx,cD,y6,n.r]
    exact O _ _ (by simp(maxDischargeDepth:=12) [ai.get_put,an,aj,Fr.nil,au,af,ah,ad,ae,ao,ak,aa, *]) (by simp(maxDischargeDepth:=12) [ai.get_put,an,aj,Fr.nil,au,af,ah,ad,ae,ao,ak,aa, *]) (by simp(maxDischargeDepth:=12) [ai.get_put,an,aj,Fr.nil,au,af,ah,ad,ae,ao,ak,aa, *]) (hO0 _ _ (by simp[jU])) (λh=>by simp at h) F
   ·rw[uC]at ht
    subst ht
    have l6:(H.get ⟨0,47,gg,0⟩).isSome=true:=by rw[hrr];rfl
    have n4:r4≠⟨0,47,gg,0⟩:=by rintro rfl;simp at X
    have n5:r5≠⟨0,47,gg,0⟩:=by rintro rfl;simp at hn5
    have f1:acc.length+1<=17592186044416:=by omega
    have f2:jW 2 8 acc.length true none (some ⟨2,jU acc,true,false⟩) (some [.agg [a8 b,aw a]]):=by
     simp;omega
    simp[af,ah,ad,ae,aa, *,cO,D.r,D.idx,cD,y6,n.r]
    exact O _ _ (by simp(maxDischargeDepth:=12) [ai.get_put,an,aj,Fr.nil,au,af,ah,ad,ae,ao,ak,aa, *]) (by simp(maxDischargeDepth:=12) [ai.get_put,an,aj,Fr.nil,au,af,ah,ad,ae,ao,ak,aa, *]) (by simp(maxDischargeDepth:=12) [ai.get_put,an,aj,Fr.nil,au,af,ah,ad,ae,ao,ak,aa, *]) (by simp[jU]) (λh=>by simp at h) F
theorem QV{l:List (aN × AV)}{x0:AV}(q:Sl 17 (cD l) x0)(f : ∀p∈l,HT p)(j : ∀p∈l,eN p.1.s=true)(o:l.length<100000)(a:UInt8)(b:UInt32)(c:UInt8)(d:Int)(v1:UInt8)(v2:UInt32) :
 aF env 144 [x0,.agg [a8 a,aw b,a8 c,aI d],.agg [a8 v1,aw v2]]=some (xU 2 (jU (iv (opsOf l) (⟨⟨a,b,c⟩,d⟩:bR) ⟨v1,v2⟩))):=by
 refine aH rfl (by kernel_rfl) (vA _ _ _ _ _ λg=>?_)
 simp[af,ah,ad,ae,aa, *,oU]
 refine J3 q f j o a b c d v1 v2 (by rfl) (by rfl) l 0 _ [] _ _ rfl (by omega) rfl (by simp) (by simp(maxDischargeDepth:=12) [an,aj,Fr.nil,au,af,ah,ad,ae,ao,ak,aa, *]) (by simp) (by simp) (.inl ⟨rfl,rfl⟩) (λ_=>rfl) (λy H' h m=>?_)
 rw[tL]at h m
 rcases h with ⟨rfl,n⟩ | ⟨t,gg,u,rfl,k⟩
 ·rw[n];simp[xU]
 ·have i:jU (iv (opsOf l) (⟨⟨a,b,c⟩,d⟩:bR) ⟨v1,v2⟩)≠[]:=by
   intro e
   rw[Kn]at e
   cases m e
  rw[CL 2 i]
  rw[Ml]at *
  simp[k]
def Hw(out:List ib)(H:ai)(x:AV):Prop :=∃r c,x = .cC r 0 out.length c/\H.get r=some ⟨2,jU out,true,false⟩/\((c=some 1/\out.length=1 /\∃g,r=⟨0,13,g,0⟩)\/(c=none/\1<out.length /\∃g,r=⟨0,37,g,0⟩))
theorem Hw.cz{out:List ib}{H H':ai}{x:AV}(h:Hw out H x)(f : ∀r b,H.get r=some b->r.t≠36->H'.get r=some b):Hw out H' x:=by
 obtain⟨r,c,e,d,a⟩:=h
 refine⟨r,c,e,f r _ d ?_,a⟩
 rcases a with ⟨_,_,g,rfl⟩ | ⟨_,_,g,rfl⟩<;>simp
theorem TF{all:List ib}{B:AV}(m:Sl 2 (jU all) B)(O:all.length<100000){Q:AV->ai->Prop} :
 ∀(s:List ib)(k:Nat)(i:Int)(out:List ib)(q:AV)(H:ai),all.drop k=s->k<=all.length->i=k->out.length<=k+1->Fr H->Hw out H q ->
 (∀y H',Hw (s.foldl rW out) H' y->Q y H') ->
 bB env Tryz.f127 0 gj [(9,aI i),(8,B),(7,q)] H Q:=by
 intro s
 induction s with
 | nil=>
  rintro k i out q H hs hk rfl ho hF o hQ
  obtain rfl:=drop_nil hs hk
  refine p9 _ _ _ _ _ λg=>?_
  have d:=hQ q H o
  clear o hQ
  simp[af,ah,ad,ae,aa, *,gl,m.len]
  all_goals exact d
 | cons t s D=>
  rintro k i out q H hs hk rfl ho hF o hQ
  obtain⟨t1,t2⟩:=t
  obtain⟨E,J,x,A⟩:=drop_cons hs
  have P:=IntWalk.i64_in ((k:Int)+1) (by omega)
  have e:=λp j H'=>D (k+1) ((k:Int)+1) p j H' x (by omega) (by simp)
  clear D
  have F:bW (jU all) k 0 2 true=some (.agg [a8 t1,aw t2]):=by simp[jU,A]
  rw[vO]at hQ
  have u:(jU out).length=out.length:=Ml out
  have v : ∀c:Option Nat,out.length<=c.getD out.length->aF env 126 [.cG 2 (jU out) c,.agg [a8 t1,aw t2]]=some (aB (decide ((⟨t1,t2⟩:ib)∈out))):=λc l=>PD (.inr ⟨c,rfl,by rw[u];exact l⟩) (by omega) t1 t2
  obtain⟨r,c,rfl,C,l⟩:=o
  refine p9 _ _ _ _ _ λg=>?_
  have L:out.length+1<=17592186044416:=by omega
  by_cases n:(⟨t1,t2⟩:ib)∈out
  ·have d : ∀y H',Hw (s.foldl rW out) H' y->Q y H':=λy H' h=>hQ y H' (by rw[rW,if_pos n];exact h)
   clear hQ
   have w:aF env 126 [.cG 2 (jU out) c,.agg [a8 t1,aw t2]]=some (aB true):=by
    rw[v c (by rcases l with ⟨rfl,h,_⟩ | ⟨rfl,h,_⟩<;>simp[h]),decide_eq_true n]
   have a:=λH' h=>e out (.cC r 0 out.length c) H' (by omega) h
   clear v e n
   have o:Hw out H (.cC r 0 out.length c):=⟨r,c,rfl,C,l⟩
   simp[af,ah,ad,ae,aa, *,gl,m.r,m.idx]
   exact a _ hF o d
  ·have d : ∀y H',Hw (s.foldl rW (out++[⟨t1,t2⟩])) H' y->Q y H':=λy H' h=>hQ y H' (by rw[rW,if_neg n];exact h)
   clear hQ
   have w:aF env 126 [.cG 2 (jU out) c,.agg [a8 t1,aw t2]]=some (aB false):=by
    rw[v c (by rcases l with ⟨rfl,h,_⟩ | ⟨rfl,h,_⟩<;>simp[h]),decide_eq_false n]
   clear v n
   have N:(H.get r).isSome=true:=by rw[C];rfl
   have a:=λj H'=>e (out++[⟨t1,t2⟩]) j H' (by simp;omega)
   clear e
   have f : ∀(g:Nat)(H':ai),H'.get ⟨0,37,g,0⟩=some ⟨2,jU out++[.agg [a8 t1,aw t2]],true,false⟩->Hw (out++[⟨t1,t2⟩]) H' (.cC ⟨0,37,g,0⟩ 0 (out.length+1) none):=by
    intro g H' h
    refine⟨_,_,by simp,by rw[h,RH],.inr ⟨rfl,?_,g,rfl⟩⟩
    rcases l with ⟨_,h,_⟩ | ⟨_,h,_⟩<;>simp<;>omega
   rcases l with ⟨rfl,z,I,rfl⟩ | ⟨rfl,z,I,rfl⟩
   ·have K:1<out.length+1:=by omega
    have b:=f (H.gen 0 37)
    clear f
    have G:(jU out).length=1:=by rw[u,z]
    rw[z]at b
    simp[af,ah,ad,ae,aa, *,gl,m.r,m.idx]
    exact a _ _ (by simp(maxDischargeDepth:=12) [ai.get_put,an,aj,Fr.nil,au,af,ah,ad,ae,ao,ak,aa, *]) (b _ (by simp)) d
   ·have M:jW 2 8 out.length true none (some ⟨2,jU out,true,false⟩) (some [.agg [a8 t1,aw t2]]):=by
     simp;omega
    have b:=f (H.gen 0 37)
    clear f
    simp[af,ah,ad,ae,aa, *,gl,m.r,m.idx]
    exact a _ _ (by simp(maxDischargeDepth:=12) [ai.get_put,an,aj,Fr.nil,au,af,ah,ad,ae,ao,ak,aa, *]) (b _ (by simp)) d
theorem Kj(l:List aN)(i:bR)(v:ib):(iv l i v).foldl rW [No i]=ph l i v:=(Kk l i v _).symm
theorem adR{l:List (aN × AV)}{x0:AV}(t:Sl 17 (cD l) x0)(k : ∀p∈l,HT p)(o : ∀p∈l,eN p.1.s=true)(x:l.length<100000)(a:UInt8)(b:UInt32)(d:UInt8)(f:Int)(v1:UInt8)(v2:UInt32) :
 aF env 127 [x0,.agg [a8 a,aw b,a8 d,aI f],.agg [a8 v1,aw v2]]=some (.cG 2 (jU (ph (opsOf l) (⟨⟨a,b,d⟩,f⟩:bR) ⟨v1,v2⟩)) (Hg (ph (opsOf l) (⟨⟨a,b,d⟩,f⟩:bR) ⟨v1,v2⟩))):=by
 refine aH rfl (by kernel_rfl) (zO _ _ _ _ _ λg=>?_)
 have z:=QV t k o x a b d f v1 v2
 have q:=LJ (opsOf l) (⟨⟨a,b,d⟩,f⟩:bR) ⟨v1,v2⟩
 rw[show(opsOf l).length=l.length from p7 _]at q
 have m:=AY 2 (jU (iv (opsOf l) (⟨⟨a,b,d⟩,f⟩:bR) ⟨v1,v2⟩))
 rw[<-Kj]
 have i:=λ(w:AV)(H:ai)(Q:AV->ai->Prop)=>TF m (by omega) (Q:=Q) (iv (opsOf l) (⟨⟨a,b,d⟩,f⟩:bR) ⟨v1,v2⟩) 0 0 [No (⟨⟨a,b,d⟩,f⟩:bR)] w H rfl (by omega) rfl (by simp)
 clear o k
 have n : ∀H:ai,H.get ⟨0,13,0,0⟩=some ⟨2,[.agg [a8 a,aw b]],true,false⟩->Hw [No (⟨⟨a,b,d⟩,f⟩:bR)] H (.cC ⟨0,13,0,0⟩ 0 1 (some 1)):=λH h=>⟨_,_,rfl,h,.inl ⟨rfl,rfl,0,rfl⟩⟩
 generalize iv (opsOf l) (⟨⟨a,b,d⟩,f⟩:bR) ⟨v1,v2⟩=al at *
 generalize xU 2 (jU al)=xo at *
 have j : ∀y H',Hw (al.foldl rW [No (⟨⟨a,b,d⟩,f⟩:bR)]) H' y->view H'.get 8 y=some (.cG 2 (jU (al.foldl rW [No (⟨⟨a,b,d⟩,f⟩:bR)])) (Hg (al.foldl rW [No (⟨⟨a,b,d⟩,f⟩:bR)]))):=by
  intro y H' h
  obtain⟨r,c,rfl,v,u⟩:=h
  have e:c=Hg (al.foldl rW [No (⟨⟨a,b,d⟩,f⟩:bR)]):=by
   rcases u with ⟨rfl,h,_⟩ | ⟨rfl,h,_⟩
   ·rw[Hg,if_pos h]
   ·rw[Hg,if_neg (by omega)]
  rw[<-e]
  simp[v]
 generalize (al.foldl rW [No (⟨⟨a,b,d⟩,f⟩:bR)])=fin at i j ⊢
 rcases m with ⟨rfl,A⟩ | ⟨c,rfl,u⟩
 ·simp[af,ah,ad,ae,aa, *,nm,t.r]
  exact i _ _ _ (by simp(maxDischargeDepth:=12) [ai.get_put,an,aj,Fr.nil,au,af,ah,ad,ae,ao,ak,aa, *]) (n _ (by simp)) j
 ·simp[af,ah,ad,ae,aa, *,nm,t.r]
  exact i _ _ _ (by simp(maxDischargeDepth:=12) [ai.get_put,an,aj,Fr.nil,au,af,ah,ad,ae,ao,ak,aa, *]) (n _ (by simp)) j
def eU(s:vu):Nat->Nat->List bR
 | 0,_=>[]
 | n+1,k=>⟨s.f.h,s.f.n+(k:Int)⟩ :: eU s n (k+1)
def U1(i:bR):AV := .agg [a8 i.h.lv,aw i.h.cats,a8 i.h.num,aI i.n]
def lP(l:List bR):List AV:=l.map U1
@[simp] theorem ye(l:List bR):(lP l).length=l.length:=by simp[lP]
theorem EB(s:vu) : ∀n k,(eU s n k).length=n:=by
 intro n
 induction n with
 | zero=>intro k;rfl
 | succ n a=>intro k;simp[eU,a]
theorem Ri(d:UInt8)(c:UInt32)(f:UInt8)(b:Int)(j:Int)(K : -4611686018427387904<b)(L:b<4611686018427387904)(P:j<100000){r1:Ref}(x:r1.t=1){Q:AV->ai->Prop} :
 ∀(n k:Nat)(i:Int)(a:List bR)(u:AV)(H:ai),(k:Int)+n=j->i=k->a.length=k->Fr H->H.get r1=some ⟨5,[.agg [a8 d,aw c,a8 f,aI b,aI j]],false,false⟩->tz [22] 4 (lP a) H u->(a=[]->u=bZ) ->
 (∀y H',tz [22] 4 (lP (a++eU (⟨⟨⟨d,c,f⟩,b⟩,j⟩:vu) n k)) H' y->(a++eU (⟨⟨⟨d,c,f⟩,b⟩,j⟩:vu) n k=[]->y=bZ)->Q y H') ->
 bB env Tryz.f105 0 jb [(4,aI i),(1,.ptr r1 0 0),(3,u)] H Q:=by
 intro n
 induction n with
 | zero=>
  rintro k i a u H hk rfl ha hF hB hO hN hQ
  refine pa _ _ _ _ _ λg=>?_
  have C : ¬(k:Int)<j:=by omega
  have o:=hQ u H (by simpa [eU] using hO) (by simpa [eU] using hN)
  clear hQ hO hN
  simp[af,ah,ad,ae,aa, *,jg]
  all_goals exact o
 | succ n E=>
  rintro k i a u H hk rfl ha hF hB hO hN hQ
  refine pa _ _ _ _ _ λg=>?_
  have C:(k:Int)<j:=by omega
  have R:=IntWalk.i64_in ((k:Int)+1) (by omega)
  have J:=IntWalk.i64_in (b+(k:Int)) (by omega)
  have v:=λz H'=>E (k+1) ((k:Int)+1) (a++[⟨⟨d,c,f⟩,b+(k:Int)⟩]) z H' (by omega) (by simp) (by simp;omega)
  clear E
  have o : ∀y H',tz [22] 4 (lP ((a++[⟨⟨d,c,f⟩,b+(k:Int)⟩])++eU (⟨⟨⟨d,c,f⟩,b⟩,j⟩:vu) n (k+1))) H' y->(((a++[⟨⟨d,c,f⟩,b+(k:Int)⟩])++eU (⟨⟨⟨d,c,f⟩,b⟩,j⟩:vu) n (k+1))=[]->y=bZ)->Q y H':=λy H' h O=>hQ y H' (by simpa [eU] using h) (λe=>by simp[eU]at e)
  clear hQ hN
  have p : ∀(g m:Nat)(H':ai),m=k+1->H'.get ⟨0,22,g,0⟩=some ⟨4,lP a++[.agg [a8 d,aw c,a8 f,aI (b+(k:Int))]],true,false⟩->tz [22] 4 (lP (a++[⟨⟨d,c,f⟩,b+(k:Int)⟩])) H' (.cC ⟨0,22,g,0⟩ 0 m none):=by
   intro g m H' G h
   subst G
   exact .inr ⟨22,g,by simp,by simp[ha],by rw[h];simp[lP,U1]⟩
  rcases hO with ⟨rfl,F⟩ | ⟨t,gg,D,rfl,B⟩
  ·have A:a=[]:=by simpa [lP] using F
   subst A
   have l:=p (H.gen 0 22) 1
   clear p
   simp[af,ah,ad,ae,aa, *,jg]
   exact v _ _ (by simp(maxDischargeDepth:=12) [ai.get_put,an,aj,Fr.nil,au,af,ah,ad,ae,ao,ak,aa, *]) (by simp(maxDischargeDepth:=12) [ai.get_put,an,aj,Fr.nil,au,af,ah,ad,ae,ao,ak,aa, *]) (l _ (by simp at ha;omega) (by simp[lP])) (λe=>by simp at e) o
  ·rw[uC]at D
   subst D
   have I:(H.get ⟨0,22,gg,0⟩).isSome=true:=by rw[B];rfl
   have M:(H.get r1).isSome=true:=by rw[hB];rfl
   have n1:r1≠⟨0,22,gg,0⟩:=by rintro rfl;simp at x
   have N:jW 4 24 a.length true none (some ⟨4,lP a,true,false⟩) (some [.agg [a8 d,aw c,a8 f,aI (b+(k:Int))]]):=by
    simp;omega
   have l:=p (H.gen 0 22) (a.length+1)
   clear p
   have w:a.length+1=k+1:=by rw[ha]
   have q:=λH'=>l H' w
   clear ha l w
   simp[af,ah,ad,ae,aa, *,jg]
   exact v _ _ (by simp(maxDischargeDepth:=12) [ai.get_put,an,aj,Fr.nil,au,af,ah,ad,ae,ao,ak,aa, *]) (by simp(maxDischargeDepth:=12) [ai.get_put,an,aj,Fr.nil,au,af,ah,ad,ae,ao,ak,aa, *]) (q _ (by simp)) (λe=>by simp at e) o
theorem Td(b:UInt8)(d:UInt32)(f:UInt8)(c:Int)(a:Int)(l:eN (⟨⟨⟨b,d,f⟩,c⟩,a⟩:vu)=true):aF env 105 [.agg [a8 b,aw d,a8 f,aI c,aI a]]=some (xU 4 (lP (eU (⟨⟨⟨b,d,f⟩,c⟩,a⟩:vu) a.toNat 0))):=by
 refine aH rfl (by kernel_rfl) (yI _ _ _ λg=>?_)
 have n:=gp l
 simp only at n
 simp[af,ah,ad,ae,aa, *,rP]
 refine Ri b d f c a (by omega) (by omega) (by omega) (by rfl) a.toNat 0 _ [] _ _ (by omega) rfl rfl (by simp(maxDischargeDepth:=12) [an,aj,Fr.nil,au,af,ah,ad,ae,ao,ak,aa, *]) (by simp) (.inl ⟨rfl,rfl⟩) (λ_=>rfl) (λy H' h k=>?_)
 rw[tL]at h k
 rcases h with ⟨rfl,m⟩ | ⟨t,gg,o,rfl,j⟩
 ·rw[m];simp[xU]
 ·have i:lP (eU (⟨⟨⟨b,d,f⟩,c⟩,a⟩:vu) a.toNat 0)≠[]:=by
   intro e
   have:eU (⟨⟨⟨b,d,f⟩,c⟩,a⟩:vu) a.toNat 0=[]:=by simpa [lP] using e
   cases k this
  rw[CL 4 i]
  rw[ye]at *
  simp[j]
theorem Ms(l:List aN)(o:aN) : ∀n k,((eU o.s n k).all λi=>decide (KC o∈ph l i (KC o)))=pw l o n k:=by
 intro n
 induction n with
 | zero=>intro k;rfl
 | succ n a=>intro k;rw[eU,zq,a,pw]
theorem J5{l:List (aN × AV)}{x0:AV}(P:Sl 17 (cD l) x0)(A : ∀p∈l,HT p)(G : ∀p∈l,eN p.1.s=true)(V:l.length<100000)(F:UInt8)(a:UInt8)(b:UInt32)(O:UInt8)(M:Int)(E:UInt8)(N:UInt32)(J:UInt8)(K:Int)(B:Int)(w:UInt8)(u:UInt32)(z:UInt8)(o:Int)(m:UInt8)(j:UInt32){x:AV}{h:List bR}{T:AV}(q:Sl 4 (lP h) T)(X:h.length<100000){r3:Ref}{H:ai}
 (Z:H.get r3=some ⟨17,[.agg [a8 F,a8 a,aw b,a8 O,aI M,a8 E,aw N,a8 J,aI K,aI B,a8 w,aw u,a8 z,aI o,a8 m,aw j,x]],false,false⟩) {Q:AV->ai->Prop} :
 ∀(s:List bR)(k:Nat)(i:Int),h.drop k=s->k<=h.length->i=k ->
 (∀y,y=aB ((s.all λi=>decide ((⟨a,b⟩:ib)∈ph (opsOf l) i ⟨a,b⟩))&&nK ⟨a,b⟩ ⟨m,j⟩)->Q y H) ->
 bB env Tryz.f109 0 fR [(6,aI i),(3,.ptr r3 0 0),(5,T),(0,x0)] H Q:=by
 intro s
 induction s with
 | nil=>
  rintro k i hs hk rfl hQ
  obtain rfl:=drop_nil hs hk
  refine mU _ _ _ _ _ _ λg=>?_
  simp[af,ah,ad,ae,aa, *,fT,q.len]
  all_goals exact hQ _ (by simp)
 | cons t s S=>
  rintro k i hs hk rfl hQ
  obtain⟨⟨d,c,e⟩,f⟩:=t
  obtain⟨W,hg,L,I⟩:=drop_cons hs
  have e3:=IntWalk.i64_in ((k:Int)+1) (by omega)
  have Y:=adR P A G V d c e f a b
  have D:=I0 (opsOf l) (⟨⟨d,c,e⟩,f⟩:bR) ⟨a,b⟩
  rw[show(opsOf l).length=l.length from p7 _]at D
  have R:=PD (Qm (ph (opsOf l) (⟨⟨d,c,e⟩,f⟩:bR) ⟨a,b⟩)) (by omega) a b
  have U:bW (lP h) k 0 4 true=some (.agg [a8 d,aw c,a8 e,aI f]):=by simp[lP,U1,I]
  rw[zq]at hQ
  have n:=S (k+1) _ L (by omega) rfl
  clear S D
  refine mU _ _ _ _ _ _ λg=>?_
  by_cases C:(⟨a,b⟩:ib)∈ph (opsOf l) (⟨⟨d,c,e⟩,f⟩:bR) ⟨a,b⟩
  ·rw[decide_eq_true C]at hQ R
   rw[nu]at hQ
   clear C
   generalize ph (opsOf l) (⟨⟨d,c,e⟩,f⟩:bR) ⟨a,b⟩=D at *
   have v:=n hQ
   clear n hQ
   simp[af,ah,ad,ae,aa, *,fT,q.r,q.idx,P.r]
   exact v
  ·rw[decide_eq_false C]at hQ R
   rw[xm,xm]at hQ
   clear C n
   generalize ph (opsOf l) (⟨⟨d,c,e⟩,f⟩:bR) ⟨a,b⟩=D at *
   simp[af,ah,ad,ae,aa, *,fT,q.r,q.idx,P.r]
   all_goals exact hQ _ rfl
theorem QT{l:List (aN × AV)}{x0:AV}(I:Sl 17 (cD l) x0)(z : ∀p∈l,HT p)(D : ∀p∈l,eN p.1.s=true)(N:l.length<100000)(y:UInt8)(t:UInt8)(u:UInt32)(w:UInt8)(v:Int)(d:UInt8)(f:UInt32)(h:UInt8)(b:Int)(a:Int)(o:UInt8)(n:UInt32)(q:UInt8)(m:Int)(k:UInt8)(j:UInt32){C:List Int}{x:AV}(A:Sl 1 (rows C) x)(K:eN ⟨⟨⟨d,f,h⟩,b⟩,a⟩=true) :
 aF env 109 [x0,.agg [a8 y,a8 t,aw u,a8 w,aI v,a8 d,aw f,a8 h,aI b,aI a,a8 o,aw n,a8 q,aI m,a8 k,aw j,x]]=some (aB (kD (opsOf l) (⟨y,⟨t,u,w⟩,v,⟨⟨⟨d,f,h⟩,b⟩,a⟩,⟨⟨o,n,q⟩,m⟩,⟨k,j⟩,C⟩:aN))):=by
 refine aH rfl (by kernel_rfl) (uL _ _ _ _ λg=>?_)
 by_cases M:y=3
 ·subst M
  have O:=Td d f h b a K
  have F:=gp K
  simp only at F
  have E:=EB ⟨⟨⟨d,f,h⟩,b⟩,a⟩ a.toNat 0
  have B:=AY 4 (lP (eU ⟨⟨⟨d,f,h⟩,b⟩,a⟩ a.toNat 0))
  have L:kD (opsOf l) (⟨3,⟨t,u,w⟩,v,⟨⟨⟨d,f,h⟩,b⟩,a⟩,⟨⟨o,n,q⟩,m⟩,⟨k,j⟩,C⟩:aN)=(((eU ⟨⟨⟨d,f,h⟩,b⟩,a⟩ a.toNat 0).all λi=>decide ((⟨t,u⟩:ib)∈ph (opsOf l) i ⟨t,u⟩))&&nK ⟨t,u⟩ ⟨k,j⟩):=by
   rw[MC _ _ rfl,Bool.and_comm]
   congr 1
   exact(Ms (opsOf l) ⟨3,⟨t,u,w⟩,v,⟨⟨⟨d,f,h⟩,b⟩,a⟩,⟨⟨o,n,q⟩,m⟩,⟨k,j⟩,C⟩ a.toNat 0).symm
  rw[L]
  have G:(eU ⟨⟨⟨d,f,h⟩,b⟩,a⟩ a.toNat 0).length<100000:=by omega
  clear L E F
  generalize eU ⟨⟨⟨d,f,h⟩,b⟩,a⟩ a.toNat 0=ids at *
  generalize xU 4 (lP ids)=xo at *
  have J:=λ(r3:Ref)(H:ai) hB Q=>J5 I z D N 3 t u w v d f h b a o n q m k j (x:=x) B G (r3:=r3) (H:=H) hB (Q:=Q) ids 0 0 rfl (by omega) rfl
  clear z D
  rcases B with ⟨rfl,F⟩ | ⟨c,rfl,P⟩
  ·simp[af,ah,ad,ae,aa, *,gY,I.r,A.r]
  ·simp[af,ah,ad,ae,aa, *,gY,I.r,A.r]
 ·have e:kD (opsOf l) (⟨y,⟨t,u,w⟩,v,⟨⟨⟨d,f,h⟩,b⟩,a⟩,⟨⟨o,n,q⟩,m⟩,⟨k,j⟩,C⟩:aN)=true:=by unfold kD;rw[if_neg M]
  simp[af,ah,ad,ae,aa, *,gY,A.r]
end Go.Proofs.YtdbiffjdomokfaaGreat
namespace Go.Proofs.YtdbiffjdomokfaaGreat
open Go.Ab
attribute [local simp] aU aK aG aW aV cz lT ba aO aQ cg cf bI bc ay bE gw
def tF(l:List Int):Prop :=∀a∈l, -2147483648<=a/\a<=2147483647
theorem Qu(i:bR):decide (i=qI)=fY i:=by
 rw[Fi,decide_eq_true_eq,xj]
@[simp] theorem abx(a:UInt8)(b:UInt32)(d:UInt8)(c:Int):aF env 125 [.agg [a8 a,aw b,a8 d,aI c]]=some (aB (fY (⟨⟨a,b,d⟩,c⟩:bR))):=by
 refine aH rfl (by kernel_rfl) (xC _ _ _ λg=>?_)
 simp[af,ah,ad,ae,aa, *,qn,fY,gk,ca]
section
variable(a_1:UInt8)(a_2:UInt32)(a_3:UInt8)(a_4:Int)(a_5:Int)(a_6:UInt8)(a_7:UInt32)(a_8:UInt8)(a_9:Int){x:AV}{l:List Int}(hx:Sl 1 (rows l) x)(hl:l.length<1000000)(hR:tF l)
include hx hl
theorem Tk(hR:tF l):aF env 107 [.agg [a8 a_1,aw a_2,a8 a_3,aI a_4,aI a_5,a8 a_6,aw a_7,a8 a_8,aI a_9,x]]=some (aB (xP (⟨⟨⟨⟨a_1,a_2,a_3⟩,a_4⟩,a_5⟩,⟨⟨a_6,a_7,a_8⟩,a_9⟩,l⟩:Rn))):=by
 have f:=ID hx (by omega) hR
 have a:=AU l
 unfold xP
 simp only[Qu]
 refine aH rfl (by kernel_rfl) (yB _ _ _ λg=>?_)
 cases h:eN (⟨⟨⟨a_1,a_2,a_3⟩,a_4⟩,a_5⟩:vu) with
 | false=>simp[af,ah,ad,ae,aa, *,fl,hx.r]
 | true=>
  by_cases d:(l.length:Int)=a_5
  ·subst d
   cases c:J4 l with
   | false=>
    have b : ¬A9 l=0:=by rw[a,c];decide
    clear a
    simp[af,ah,ad,ae,aa, *,fl,hx.r]
   | true=>
    have b:A9 l=0:=a.2 c
    clear a
    cases e:fY (⟨⟨a_6,a_7,a_8⟩,a_9⟩:bR) with
    | true=>simp[af,ah,ad,ae,aa, *,fl,hx.r]
    | false=>cases i:DZ (⟨⟨a_6,a_7,a_8⟩,a_9⟩:bR)<;>simp[af,ah,ad,ae,aa, *,fl,hx.r]
  ·clear a
   simp[af,ah,ad,ae,aa, *,fl,hx.r]
end
@[simp] theorem PF(a_1:UInt8)(a_2:UInt32)(a_3:UInt8)(a_4:Int)(a_5:Int)(a_6:UInt8)(a_7:UInt32)(a_8:UInt8)(a_9:Int)(n:Int){x:AV}{l:List Int}(hx:Sl 1 (rows l) x):aF env 142 [.agg [a8 a_1,aw a_2,a8 a_3,aI a_4,aI a_5,a8 a_6,aw a_7,a8 a_8,aI a_9,x],aI n]=some (.agg [a8 a_1,aw a_2,a8 a_3,aI (IntKind.i64.wrap (a_4+n))]):=by
 refine aH rfl (by kernel_rfl) (zP _ _ _ _ λg=>?_)
 simp[af,ah,ad,ae,aa, *,sv,hx.r]
@[simp] theorem Lt(a_1:UInt8)(a_2:UInt32)(a_3:UInt8)(a_4:Int)(a_5:Int)(a_6:UInt8)(a_7:UInt32)(a_8:UInt8)(a_9:Int)(n:Int){x:AV}{l:List Int}(hx:Sl 1 (rows l) x)(c:0<=n)(b:n<1000000):aF env 143 [.agg [a8 a_1,aw a_2,a8 a_3,aI a_4,aI a_5,a8 a_6,aw a_7,a8 a_8,aI a_9,x],aI n] =
 some (if n=0 then .agg [a8 a_6,aw a_7,a8 a_8,aI a_9] else .agg [a8 a_1,aw a_2,a8 a_3,aI (IntKind.i64.wrap (a_4+(n - 1)))]):=by
 have h:=PF a_1 a_2 a_3 a_4 a_5 a_6 a_7 a_8 a_9 (n - 1) hx
 have w:=IntWalk.i64_in (n - 1) (by omega)
 refine aH rfl (by kernel_rfl) (vB _ _ _ _ λg=>?_)
 by_cases a:n=0
 ·subst a
  simp[af,ah,ad,ae,aa, *,kU,hx.r]
 ·simp[af,ah,ad,ae,aa, *,kU,hx.r]
end Go.Proofs.YtdbiffjdomokfaaGreat
namespace Go.Proofs.YtdbiffjdomokfaaGreat
open Go.Ab
attribute [local simp] aU aK aG aW aV cz lT ba aO aQ cg cf bI bc ay bE gw Mp
def RL(P:Program)(t:TypeId):Bool:=match P.underlying t with
 | some (.interface _)=>false
 | some _=>true
 | none=>false
theorem DN{P:Program}{t:TypeId}(h:RL P t=true)(x:AV):sI P t (some x)=some (.ifc t x,[]):=by
 unfold RL at h
 unfold sI
 cases hu:P.underlying t with
 | none=>rw[hu]at h;cases h
 | some d=>rw[hu]at h;cases d<;>first | rfl | cases h
theorem BN{P:Program}{t a:TypeId}(h:RL P a=true)(y:AV)(ok:Bool):sR P (some (.ifc t y)) a ok=(if t=a then some ((if ok then .tup [y,.v (.bool true)] else y),[]) else if ok then (eD P a).map λz=>(.tup [z,.v (.bool false)],[]) else none):=by
 unfold RL at h
 unfold sR
 cases hu:P.underlying a with
 | none=>rw[hu]at h;cases h
 | some d=>rw[hu]at h;cases d<;>first | rfl | cases h
@[simp] theorem aeG:RL env.P 29=true:=by kernel_rfl
@[simp] theorem aeH:RL env.P 23=true:=by kernel_rfl
attribute [local simp] DN BN
section
variable{xu xq:AV}{us:List Clear}{qs:List aC}{gr:Int}(hu:Sl 3 (cW us) xu)(hq:Sl 5 (cN qs) xq)(hql:qs.length * 32<=140737488355328)(hul:us.length * 12<=140737488355328)
include hu hq hql hul
theorem S4(a:Int)(v:UInt8)(c:UInt32)(ok:Bool)(q:0<=a)(i:a<us.length)(o:gr≠0) : ∃h,Sl 5 (cN qs) h /\
 aF env 97 [.agg [xu,xq,aI gr],.agg [aI a,a8 v,aw c,aB ok]]=some (.ifc 29 (.agg [.cG 3 (cW (us.set a.toNat ⟨v,c,ok⟩)) none,h,aI (IntKind.i64.wrap (gr - 1))])):=by
 have m:=PH (gr:=gr) hu hq hql hul
 obtain⟨n,rfl,_⟩:=hu.W6 (by intro e;have:=congrArg List.length e;simp at this;subst this;simp at i;omega)
 have f:cW us≠[]:=by intro e;have:=congrArg List.length e;simp at this;subst this;simp at i;omega
 rw[sL 3 n f]at m
 have l:=vc hq
 generalize rq xq=h at *
 have p:jt (cW us) a.toNat 0 [a8 v,aw c,aB ok]=some (cW (us.set a.toNat ⟨v,c,ok⟩)):=by
  have d:a.toNat<us.length:=by omega
  simp[Eo,eC d,Clear.enc,Fx]
 have j:(cW us).length=us.length:=by simp
 have k : ¬(us.length:Int)<=a:=by omega
 rcases l with ⟨rfl,b⟩ | rfl | ⟨rfl,b⟩
 ·refine⟨bZ,.inl ⟨rfl,b⟩,?_⟩
  refine aH rfl (by kernel_rfl) (nO _ _ _ _ λg=>?_)
  simp[af,ah,ad,ae,aa, *,mm,hq.r,aG]
 ·refine⟨.cG 5 (cN qs) none,Sl.mk _ _,?_⟩
  refine aH rfl (by kernel_rfl) (nO _ _ _ _ λg=>?_)
  simp[af,ah,ad,ae,aa, *,mm,hq.r,aG]
 ·refine⟨.cG 5 [] (some 0),.inr ⟨some 0,by rw[b],by rw[b];simp⟩,?_⟩
  refine aH rfl (by kernel_rfl) (nO _ _ _ _ λg=>?_)
  simp[af,ah,ad,ae,aa, *,mm,hq.r,aG]
theorem QQ(a:Int)(v:UInt8)(c:UInt32)(ok:Bool)(d:(us.length:Int)<=a):aF env 97 [.agg [xu,xq,aI gr],.agg [aI a,a8 v,aw c,aB ok]]=some (.ifc 23 (aI 2)):=by
 refine aH rfl (by kernel_rfl) (nO _ _ _ _ λg=>?_)
 have b:(cW us).length=us.length:=by simp
 simp[af,ah,ad,ae,aa, *,mm,hu.r,hq.r]
theorem QP(a:Int)(v:UInt8)(c:UInt32)(ok:Bool)(e : ¬(us.length:Int)<=a)(d:gr=0):aF env 97 [.agg [xu,xq,aI gr],.agg [aI a,a8 v,aw c,aB ok]]=some (.ifc 23 (aI 9)):=by
 subst d
 refine aH rfl (by kernel_rfl) (nO _ _ _ _ λg=>?_)
 have b:(cW us).length=us.length:=by simp
 simp[af,ah,ad,ae,aa, *,mm,hu.r,hq.r]
end
def w9(us:List Clear)(qs:List aC)(gr:Int)(a:Int)(v:UInt8)(c:UInt32)(ok:Bool):Int:=
 if tY us qs gr&&wV a v c ok then (if (us.length:Int)<=a then 2 else if gr=0 then 9 else 0) else 8
section
variable{xu xq:AV}{us:List Clear}{qs:List aC}{gr:Int}(hu:Sl 3 (cW us) xu)(hq:Sl 5 (cN qs) xq)(hql:qs.length * 32<=140737488355328)(hul:us.length * 12<=140737488355328)
include hu hq hql hul
theorem Q5(a:Int)(v:UInt8)(c:UInt32)(ok:Bool)(h:w9 us qs gr a v c ok≠0):aF env 80 [.agg [xu,xq,aI gr],.agg [aI a,a8 v,aw c,aB ok]]=some (.tup [.agg [bZ,bZ,aI 0],aI (w9 us qs gr a v c ok)]):=by
 have k:=Cz (gr:=gr) hu hq (by omega) (by omega)
 have j:=Lw a v c ok
 refine aH rfl (by kernel_rfl) (z9 _ _ _ _ λg=>?_)
 unfold w9 at h ⊢
 cases hm:tY us qs gr with
 | false=>
  cases d:wV a v c ok<;>simp[af,ah,ad,ae,aa, *,mo,hu.r,hq.r,bad]
 | true=>
  cases d:wV a v c ok with
  | false=>simp[af,ah,ad,ae,aa, *,mo,hu.r,hq.r,bad]
  | true=>
   rw[hm,d]at h
   simp only[Bool.and_self,if_true]at h ⊢
   by_cases b:(us.length:Int)<=a
   ·have i:=QQ (gr:=gr) hu hq hql hul a v c ok b
    simp[af,ah,ad,ae,aa, *,mo,hu.r,hq.r,bad]
   ·have f:gr=0:=Decidable.by_contra λe=>h (by rw[if_neg b,if_neg e])
    have i:=QP (gr:=gr) hu hq hql hul a v c ok b f
    subst f
    simp[af,ah,ad,ae,aa, *,mo,hu.r,hq.r,bad]
theorem Lx(a:Int)(v:UInt8)(c:UInt32)(ok:Bool)(h:w9 us qs gr a v c ok=0) : ∃f,Sl 5 (cN qs) f /\
 aF env 80 [.agg [xu,xq,aI gr],.agg [aI a,a8 v,aw c,aB ok]]=some (.tup [.agg [.cG 3 (cW (us.set a.toNat ⟨v,c,ok⟩)) none,f,aI (IntKind.i64.wrap (gr - 1))],aI 0]):=by
 have l:=Cz (gr:=gr) hu hq (by omega) (by omega)
 have j:=Lw a v c ok
 unfold w9 at h
 split at h
 ·rename_i e
  rw[aZ]at e
  obtain⟨e,i⟩:=e
  split at h
  ·cases h
  ·rename_i n
   split at h
   ·cases h
   ·rename_i k
    have b:=i
    simp only[wV,aZ,decide_eq_true_eq]at b
    obtain⟨f,d,m⟩:=S4 (gr:=gr) hu hq hql hul a v c ok b.1.1 (by omega) k
    refine⟨f,d,?_⟩
    clear b h
    refine aH rfl (by kernel_rfl) (z9 _ _ _ _ λg=>?_)
    rw[e]at l
    rw[i]at j
    clear e i
    generalize us.set a.toNat ⟨v,c,ok⟩=us' at *
    simp[af,ah,ad,ae,aa, *,mo,hu.r,hq.r,d.r,bad]
 ·cases h
end
end Go.Proofs.YtdbiffjdomokfaaGreat
namespace Go.Proofs.YtdbiffjdomokfaaGreat
open Go.Ab
attribute [local simp] aU aK aG aW aV cz lT ba aO aQ cg cf bI bc ay bE gw
attribute [local simp] J0
@[simp] theorem Wm(a:Int)(v:UInt8)(c:UInt32)(ok:Bool):aF env 54 [.agg [aI a,a8 v,aw c,aB ok]]=some (aB (decide (0<=a)&&decide (a<8)&&ox v c ok)):=by
 refine aH rfl (by kernel_rfl) (yE _ _ _ λg=>?_)
 simp[af,ah,ad,ae,aa, *,rL]
 repeat' ((first | refine gU (λh=>?_) (λh=>?_) | refine fM (λh=>?_) (λh=>?_) | refine fN (λh=>?_) (λh=>?_) | refine fK (λh=>?_) (λh=>?_) | refine fL (λh=>?_) (λh=>?_))<;>(try simp only[decide_eq_true_eq,decide_eq_false_iff_not,dQ,ke,aZ,ff]at h)<;>(try simp[af,ah,ad,ae,aa, *]))
def Ce(z:Nat):List AV->AV
 | []=>bZ
 | es => .cG z es none
@[simp] theorem aa2(z:Nat):Ce z []=bZ:=id rfl
theorem K5(z:Nat){es:List AV}(h:es≠[]):Ce z es = .cG z es none:=by
 cases es with
 | nil=>exact absurd rfl h
 | cons a l=>rfl
theorem FV(z:Nat)(es:List AV):Sl z es (Ce z es):=by
 by_cases h:es=[]
 ·subst h;exact .inl ⟨rfl,rfl⟩
 ·rw[K5 z h];exact .inr ⟨none,rfl,by simp⟩
def mP(us:List Clear)(gr a:Int):Int:=if (us.length:Int)<=a then 2 else if gr=0 then 9 else 0
section
variable{xu xq:AV}{us:List Clear}{qs:List aC}{gr:Int}(hu:Sl 3 (cW us) xu)(hq:Sl 5 (cN qs) xq)(hql:qs.length<1000)(hul:us.length<1000)
include hu hq hql hul
theorem IH(a:Int)(v:UInt8)(c:UInt32)(ok:Bool)(h:mP us gr a≠0) :
 aF env 56 [.agg [xu,xq,aI gr],.agg [aI a,a8 v,aw c,aB ok]]=some (.tup [.agg [xu,xq,aI gr],aI (mP us gr a)]):=by
 unfold mP at *
 refine aH rfl (by kernel_rfl) (kR _ _ _ _ λg=>?_)
 have b:(cW us).length=us.length:=by simp
 by_cases e:(us.length:Int)<=a
 ·clear h
  simp[af,ah,ad,ae,aa, *,fx,hu.r,hq.r]
 ·by_cases d:gr=0
  ·subst d
   clear h
   simp[af,ah,ad,ae,aa, *,fx,hu.r,hq.r]
  ·rw[if_neg e,if_neg d]at h
   exact absurd rfl h
theorem II(a:Int)(v:UInt8)(c:UInt32)(ok:Bool)(p:0<=a)(h:mP us gr a=0) :
 aF env 56 [.agg [xu,xq,aI gr],.agg [aI a,a8 v,aw c,aB ok]]=some (.tup [.agg [.cG 3 (cW (us.set a.toNat ⟨v,c,ok⟩)) none,Ce 5 (cN qs),aI (IntKind.i64.wrap (gr - 1))],aI 0]):=by
 have j:=Wl (gr:=gr) hu hq (by omega) (by omega)
 unfold mP at h
 split at h
 ·cases h
 ·rename_i m
  split at h
  ·cases h
  ·rename_i o
   clear h
   have n:jt (cW us) a.toNat 0 [a8 v,aw c,aB ok]=some (cW (us.set a.toNat ⟨v,c,ok⟩)):=by
    have d:a.toNat<us.length:=by omega
    simp[Eo,eC d,Clear.enc,Fx]
   have k:(cW us).length=us.length:=by simp
   have f:cW us≠[]:=by intro e;have:=congrArg List.length e;simp at this;subst this;simp at m;omega
   have b:(cW (us.set a.toNat ⟨v,c,ok⟩)).length=us.length:=by simp
   rw[CM 3 f]at j
   generalize cW (us.set a.toNat ⟨v,c,ok⟩)=es at *
   have l:a<us.length:=by omega
   by_cases i:qs=[]
   ·subst i
    refine aH rfl (by kernel_rfl) (kR _ _ _ _ λg=>?_)
    simp[af,ah,ad,ae,aa, *,fx,hu.r,hq.r]
   ·have n2:cN qs≠[]:=by simpa using i
    rw[CM 5 n2]at j
    rw[K5 5 n2]
    refine aH rfl (by kernel_rfl) (kR _ _ _ _ λg=>?_)
    simp[af,ah,ad,ae,aa, *,fx,hu.r,hq.r]
end
section
variable{xu xq:AV}{us:List Clear}{qs:List aC}{gr:Int}(hu:Sl 3 (cW us) xu)(hq:Sl 5 (cN qs) xq)(hql:qs.length<1000000)
include hu hq hql
theorem Rc{a:UInt8}{b:UInt32}{r1 r2 r3:Ref}(w:r1≠r3/\r2≠r3){Q:AV->ai->Prop} : ∀(s:List aC)(k:Nat)(H:ai)(z:aC),qs.drop k=s->k<=qs.length->H.get r1=some ⟨3,[.agg [xu,xq,aI gr]],false,false⟩->H.get r2=some ⟨2,[.agg [a8 a,aw b]],false,false⟩ ->
 H.get r3=some ⟨5,[.agg z.enc],false,false⟩->(∀H' y,y=AV.agg (PT a b (s.find? (wi a b))).enc->Q y H')->bB env Tryz.f60 0 jw [(4,.ptr r3 0 0),(5,aI k),(2,.ptr r1 0 0),(3,.ptr r2 0 0)] H Q:=by
 intro s
 induction s with
 | nil=>
  rintro k H z hs hk h1 h2 h3 hQ
  obtain rfl:=drop_nil hs hk
  have n:=λH'=>hQ H' _ rfl
  simp only[List.find?_nil,OE,aC.enc]at n
  have f:(cN qs).length=qs.length:=by simp
  simp only[aC.enc]at h3
  refine qa _ _ _ _ _ _ λg=>?_
  clear hQ
  simp[af,ah,ad,ae,aa, *,mw,hq.r,ai.get_put]
 | cons q s p=>
  rintro k H z hs hk h1 h2 h3 hQ
  obtain⟨m,u,l,i⟩:=drop_cons hs
  have v:=IntWalk.i64_in ((k:Int)+1) (by omega)
  have f:(cN qs).length=qs.length:=by simp
  have d:bW (cN qs) k 0 5 true=some (.agg q.enc):=by simp[cN,i,aC.enc]
  have o:bW (cN qs) k 0 2 true=some (.agg [a8 q.lv,aw q.cats]):=by simp[bW,cN,i,aC.enc]
  have c:=λ(h:wi a b q=true) H'=>hQ H' _ (by rw[List.find?_cons_of_pos h])
  have j:=λ(h : ¬wi a b q=true)=>p (k+1) H z l (by omega) h1 h2 h3 (λH' y e=>hQ H' y (by rw[List.find?_cons_of_neg h];exact e))
  rw[show((k+1:Nat):Int)=(k:Int)+1 from by omega]at j
  simp only[aC.enc,OD]at c d h3
  have t:(k:Int)<qs.length:=by omega
  generalize cN qs=eq at *
  clear p hQ hs l u i
  refine qa _ _ _ _ _ _ λg=>?_
  simp[af,ah,ad,ae,aa, *,mw,hq.r,hq.idx,m,f,d,o,gk,ca]
  refine gU (λh=>?_) (λh=>?_)
  ·simp[hq.r,hq.idx,m,f,d,ai.get_put,h1,h2,h3]
   exact c (by simpa [wi] using h) _
  ·simp[v]
   exact j (by simpa [wi] using h)
theorem Tf(a:UInt8)(b:UInt32):aF env 60 [.agg [xu,xq,aI gr],.agg [a8 a,aw b]]=some (.agg (nC qs a b).enc):=by
 refine aH rfl (by kernel_rfl) (zQ _ _ _ _ λg=>?_)
 simp[af,ah,ad,ae,aa, *,sw,hu.r,hq.r]
 refine Rc (gr:=gr) (a:=a) (b:=b) (r1:=⟨0,2,0,0⟩) (r2:=⟨0,3,0,0⟩) (r3:=⟨0,4,0,0⟩) hu hq hql ⟨by simp,by simp⟩ qs 0 _ ⟨0,0,0,0,0⟩ rfl (by omega) ?_ ?_ ?_ (λH' y e=>?_)
 ·simp
 ·simp
 ·simp[aC.enc]
 ·subst e
  simp[nC,aC.enc]
end
end Go.Proofs.YtdbiffjdomokfaaGreat
namespace Go.Proofs.YtdbiffjdomokfaaGreat
open Go.Ab
theorem TG:Np env.P 56 (λp:cB × AV=>Sl 1 (rows p.1.op.l) p.2/\tF p.1.op.l) ahF:=by
 intro n xs h
 have h:=lZ (P:=env.P) MF h
 obtain⟨m,w,r1,rfl,a,l,r2,rfl,b,x,r3,rfl,e,y,r4,rfl,d,A,r5,rfl,j,rfl⟩:=h
 obtain⟨k,_,rfl⟩:=PL (P:=env.P) (t:=5) (by simp) _ _ a
 obtain⟨u,_,rfl⟩:=sQ (P:=env.P) (t:=3) (by simp) _ _ b
 obtain⟨q,f,rfl⟩:=TH _ _ e
 obtain⟨c,_,rfl⟩:=sQ (P:=env.P) (t:=23) (by simp) _ _ d
 have i:=lZ (P:=env.P) MG j
 obtain⟨m,v,s1,rfl,i1,o,s2,rfl,i2,rfl⟩:=i
 obtain⟨g,_,rfl⟩:=sQ (P:=env.P) (t:=3) (by simp) _ _ i1
 obtain⟨z,_,rfl⟩:=WA _ _ i2
 exact⟨(⟨k,u,q.1,c,g,z.1,z.2.1,z.2.2⟩,q.2),f,rfl⟩
theorem SZ{n:Nat}{x:AV}(h:Sh env.P n 31 x) : ∃(l:List (cB × AV)),(∀p∈l,Sl 1 (rows p.1.op.l) p.2/\tF p.1.op.l)/\Sl 24 (bh l) x:=by
 obtain⟨l,z,a,e,s⟩:=Cs (P:=env.P) SM SI V5 TG (h.cell (by simp))
 cases e
 exact⟨l,a,s⟩
end Go.Proofs.YtdbiffjdomokfaaGreat
namespace Go.Proofs.YtdbiffjdomokfaaGreat
open Go.Ab
attribute [local simp] aU aK aG aW aV cz lT ba aO aQ cg cf bI bc ay bE gw
structure A7 where
 o:Bool
 u:Int
 s:Int
structure zM where
 opens:Int
 ops:Int
 cells:Int
def A7.av(s:A7):AV := .agg [aB s.o,aI s.u,aI s.s]
def zM.av(u:zM):AV := .agg [a8 0,aw 0,aI u.opens,aI u.ops,aI u.cells]
def s9:Option AV->A7
 | some (.agg [.v (.bool o),.v (.int _ u),.v (.int _ s)])=>⟨o,u,s⟩
 | _=>⟨false,0,0⟩
def vC:Option AV->zM
 | some (.agg [_,_,.v (.int _ x),.v (.int _ y),.v (.int _ z)])=>⟨x,y,z⟩
 | _=>⟨0,0,0⟩
@[simp] theorem Cu(s:A7):s9 (some s.av)=s:=by cases s;rfl
@[simp] theorem JR(u:zM):vC (some u.av)=u:=by cases u;rfl
def S1(l:List (vI × AV)):Prop :=∀p∈l,∃s:A7,p.2=s.av
def SF(l:List (ib × AV)):Prop :=∀p∈l,∃u:zM,p.2=u.av
theorem look_ok{K:Type}[DecidableEq K]{P:AV->Prop} : ∀ {l:List (K × AV)} (h : ∀p∈l,P p.2) (k:K),cm k l=none \/∃x,cm k l=some x/\P x
 | [],_,_ => .inl rfl
 | p :: l,h,k=>by
  unfold cm
  split
  ·exact .inr ⟨p.2,rfl,h p gG⟩
  ·exact look_ok (λq a=>h q (fW _ a)) k
theorem Ct{K:Type}[DecidableEq K]{P:AV->Prop}{k:K}{x:AV}(a:P x) : ∀ {l:List (K × AV)} (h : ∀p∈l,P p.2),∀p∈jk k x l,P p.2
 | [],_=>by intro p hp;simp[jk]at hp;rw[hp];exact a
 | q :: l,h=>by
  intro p hp
  unfold jk at hp
  split at hp
  ·rcases nw.1 hp with rfl | hp
   ·exact a
   ·exact h p (fW _ hp)
  ·rcases nw.1 hp with rfl | hp
   ·exact h _ gG
   ·exact Ct a (λp hp=>h p (fW _ hp)) p hp
theorem S0{l:List (vI × AV)}(h:S1 l)(k:vI):(cm k l).getD (.agg [aB false,aI 0,aI 0])=(s9 (cm k l)).av:=by
 rcases look_ok (P:=λx =>∃s:A7,x=s.av) h k with e | ⟨x,e,s,rfl⟩
 ·rw[e];rfl
 ·rw[e,Cu];rfl
theorem SE{l:List (ib × AV)}(h:SF l)(k:ib):(cm k l).getD (.agg [a8 0,aw 0,aI 0,aI 0,aI 0])=(vC (cm k l)).av:=by
 rcases look_ok (P:=λx =>∃u:zM,x=u.av) h k with e | ⟨x,e,u,rfl⟩
 ·rw[e];rfl
 ·rw[e,JR];rfl
def mH(z:Nat)(es:List AV)(H:ai)(x y:AV):Prop:=(x=y/\Sl z es y) \/∃r c,x = .cC r 0 es.length c/\H.get r=some ⟨z,es,true,true⟩/\y = .cG z es c/\es.length<=c.getD es.length
theorem mH.s{z:Nat}{es:List AV}{H:ai}{x y:AV}(h:mH z es H x y):kr z es H x y:=by
 rcases h with h | ⟨r,c,d,e,a,f⟩
 ·exact .inl h
 ·exact .inr ⟨r,c,true,d,e,a,f⟩
theorem mH.refs{z:Nat}{es:List AV}{H:ai}{x y:AV}(h:mH z es H x y)(n:Nat):jX H.get (ax H.get (n+1) x)=true:=by
 rcases h with ⟨rfl,h⟩ | ⟨r,c,rfl,a,rfl,d⟩
 ·rw[h.refs];rfl
 ·simp[a]
theorem mH.of{z:Nat}{es:List AV}{x:AV}(h:Sl z es x)(H:ai):mH z es H x x := .inl ⟨rfl,h⟩
structure ji where
 us:List Clear
 gr:Int
 ses:List (vI × AV)
 used:List (ib × AV)
 fc:List (aN × AV)
structure zm (b:ji):Prop where
 ses:S1 b.ses
 used:SF b.used
 fc : ∀p∈b.fc,HT p/\p.1.l.length<1000000
 many:b.fc.length<10000
 few:b.us.length<1000000
structure Eg (H:ai) (rb:Ref) (us0:List Clear) (qs:List aC) (gr0:Int) (b:ji):Prop where
 box : ∃xu xq yu yq wu wq xr rs ru xh vh,H.get rb=some ⟨10,[.agg [xu,xq,aI gr0,yu,yq,aI b.gr,xr,.mp rs,.mp ru,xh]],false,false⟩/\Sl 3 (cW us0) xu/\Sl 5 (cN qs) xq/\mH 3 (cW b.us) H yu wu/\mH 5 (cN qs) H yq wq /\
  H.get rs=some (bn (cI Au b.ses))/\H.get ru=some (bn (cI y4 b.used))/\kr 17 (cD b.fc) H xh vh/\xr.cells=[xr]/\xr.one=true
theorem mH.grow{z:Nat}{es:List AV}{H H':ai}{x y:AV}(h:mH z es H x y)(g:cF H H'):mH z es H' x y:=by
 rcases h with h | ⟨r,c,rfl,d,rfl,a⟩
 ·exact .inl h
 ·exact .inr ⟨r,c,rfl,g.old _ _ d,rfl,a⟩
theorem kr.grow{z:Nat}{es:List AV}{H H':ai}{x y:AV}(h:kr z es H x y)(g:cF H H'):kr z es H' x y:=by
 rcases h with h | ⟨r,c,fz,rfl,d,rfl,a⟩
 ·exact .inl h
 ·exact .inr ⟨r,c,fz,rfl,g.old _ _ d,rfl,a⟩
theorem Eg.grow{H H':ai}{rb:Ref}{us0:List Clear}{qs:List aC}{gr0:Int}{b:ji}(h:Eg H rb us0 qs gr0 b)(g:cF H H'):Eg H' rb us0 qs gr0 b:=by
 obtain⟨i,f,u,l,o,p,c,rs,ru,e,t,j,k,q,m,w,v,a,d,n⟩:=h.box
 exact⟨i,f,u,l,o,p,c,rs,ru,e,t,g.old _ _ j,k,q,mH.grow m g,mH.grow w g,g.old _ _ v,g.old _ _ a,kr.grow d g,n⟩
theorem JW{g:db}{rs:Ref}{l:List (vI × AV)}(hb:S1 l)(a:g rs=some (bn (cI Au l)))(h:vI):eT env.P g 88 (some (.mp rs)) (some (.agg [a8 h.lv,aw h.cats,a8 h.num])) false=some ((s9 (cm h l)).av,[]):=by
 have e:=Ak Kp GY (t:=88) (et:=119) (by kernel_rfl) (z := .agg [aB false,aI 0,aI 0]) (by kernel_rfl) a h false
 rw[S0 hb]at e
 exact e
theorem F7{g:db}{ru:Ref}{l:List (ib × AV)}(hb:SF l)(a:g ru=some (bn (cI y4 l)))(v:ib):eT env.P g 89 (some (.mp ru)) (some (.agg [a8 v.lv,aw v.cats])) false=some ((vC (cm v l)).av,[]):=by
 have e:=Ak Ko GP (t:=89) (et:=76) (by kernel_rfl) (z := .agg [a8 0,aw 0,aI 0,aI 0,aI 0]) (by kernel_rfl) a v false
 rw[SE hb]at e
 exact e
section
variable(dep:Nat){H:ai}(hF:Fr H){rb:Ref}{us0:List Clear}{qs:List aC}{gr0:Int}{b:ji}(hb:Eg H rb us0 qs gr0 b)(hok:zm b)(hul:us0.length<1000000)(hql:qs.length<1000000)
include hF hb hok hul hql
theorem left_at(v1:UInt8)(v2:UInt32) : ∃H',cE env dep (.fn 72) [.ptr rb 0 0,.agg [a8 v1,aw v2]] H =
 some (.tup [aB (decide ((vC (cm ⟨v1,v2⟩ b.used)).opens<(qS us0 qs gr0 v1 v2).opens)),aB (decide ((vC (cm ⟨v1,v2⟩ b.used)).ops<(qS us0 qs gr0 v1 v2).ops))],H')/\cF H H':=by
 refine hY (fn:=Tryz.f72) (c:=qC) (by kernel_rfl) (by kernel_rfl) (by kernel_rfl) (by kernel_rfl) (by kernel_rfl) ?_
 refine qz _ _ _ _ _ λg=>?_
 obtain⟨A,z,Q,C,I,K,t,rs,ru,w,N,m,e,i,f,k,S,l,a,F⟩:=hb.box
 have B:=PG (gr:=gr0) e i (by omega) (by omega) v1 v2
 have D:(H.get rb).isSome=true:=by rw[m];rfl
 have J:(H.get ru).isSome=true:=by rw[l];rfl
 have n:=λ(H':ai)(h:H'.get ru=some (bn (cI y4 b.used)))=>F7 (g:=H'.get) hok.used h ⟨v1,v2⟩
 have G:=f.s.cells
 have E:=k.s.cells
 have O:=a.cells
 generalize qS us0 qs gr0 v1 v2=q at *
 generalize vC (cm ⟨v1,v2⟩ b.used)=u at *
 obtain⟨x,y,L,P,M⟩:=q
 obtain⟨R,v,p⟩:=u
 have d : ∀b1 b2 b3:bA,cF H ((⟨dep+1,8,H.gen (dep+1) 8,0⟩,some b3) :: (⟨dep+1,6,H.gen (dep+1) 6,0⟩,some b2) :: (⟨dep+1,3,H.gen (dep+1) 3,0⟩,some b1) :: H):=λb1 b2 b3=>⟨by simp(maxDischargeDepth:=12) [ai.get_put,an,aj,Fr.nil,au,af,ah,ad,ae,ao,ak,aa, *],λq c j=>by
  have o:(H.get q).isSome=true:=by rw[j];rfl
  simp[af hF o,j]⟩
 clear hb f k a hok
 simp[af,ah,ad,ae,aa, *,kQ,e.r,i.r,aC.enc,zM.av]
def Ao(b:ji)(qs:List aC)(a:Int)(v1:UInt8)(v2:UInt32):Bool:=decide (zD b.us qs b.gr v1=0)&&oY b.us a v1 v2
theorem Ut(a:Int)(v1:UInt8)(v2:UInt32) : ∃H',cE env dep (.fn 73) [.ptr rb 0 0,aI a,.agg [a8 v1,aw v2]] H=some (aB (Ao b qs a v1 v2),H')/\cF H H':=by
 refine hY (fn:=Tryz.f73) (c:=rz) (by kernel_rfl) (by kernel_rfl) (by kernel_rfl) (by kernel_rfl) (by kernel_rfl) ?_
 refine qN _ _ _ _ _ _ λg=>?_
 obtain⟨t,q,F,u,A,B,o,rs,ru,p,D,l,i,j,d,e,G,n,f,x⟩:=hb.box
 have m:=Zm (gr:=b.gr) d.s.sl e.s.sl (by omega) (by have:=hok.few;omega) a v1 v2
 have v:(H.get rb).isSome=true:=by rw[l];rfl
 have y:=λb1=>(d.s.cons hF (dep+1) 5 (some b1)).r
 have w:=λb1=>(e.s.cons hF (dep+1) 5 (some b1)).r
 have z:=d.s.cells
 have C:=e.s.cells
 have E:=f.cells
 have k:=cF.refl hF
 have h : ∀b1:bA,cF H ((⟨dep+1,5,H.gen (dep+1) 5,0⟩,some b1) :: H):=λb1=>cF.cons hF _ _ _
 unfold Ao
 clear hb d e f hok
 generalize oY b.us a v1 v2=ob at *
 by_cases hp:zD b.us qs b.gr v1=0
 ·rw[hp]at m
  cases ob<;>simp[af,ah,ad,ae,aa, *,hX,i.r,j.r,hp]
 ·cases ob<;>simp[af,ah,ad,ae,aa, *,hX,i.r,j.r,hp]
def uE(us0:List Clear)(qs:List aC)(gr0:Int)(b:ji)(o:aN):Int:=
 if py b.fc o≠0 then py b.fc o else if o.kind=1/\(qS us0 qs gr0 o.h.lv o.h.cats).cells<IntKind.i64.wrap ((vC (cm ⟨o.h.lv,o.h.cats⟩ b.used)).cells+o.s.many) then 9 else 0
theorem NT(o:UInt8)(a:UInt8)(f:UInt32)(z:UInt8)(w:Int)(p:UInt8)(y:UInt32)(t:UInt8)(v:Int)(d:Int)(l:UInt8)(j:UInt32)(m:UInt8)(i:Int)(n:UInt8)(k:UInt32){x:AV}{E:List Int}(C:Sl 1 (rows E) x)(F:E.length<1000000) : ∃H',cE env dep (.fn 76) [.ptr rb 0 0,.agg [a8 o,a8 a,aw f,a8 z,aI w,a8 p,aw y,a8 t,aI v,aI d,a8 l,aw j,a8 m,aI i,a8 n,aw k,x]] H=some (aI (uE us0 qs gr0 b (⟨o,⟨a,f,z⟩,w,⟨⟨⟨p,y,t⟩,v⟩,d⟩,⟨⟨l,j,m⟩,i⟩,⟨n,k⟩,E⟩:aN)),H')/\cF H H':=by
 refine hY (fn:=Tryz.f76) (c:=oZ) (by kernel_rfl) (by kernel_rfl) (by kernel_rfl) (by kernel_rfl) (by kernel_rfl) ?_
 refine oX _ _ _ _ _ λg=>?_
 obtain⟨xu,xq,yu,Y,wu,wq,xr,rs,ru,V,vh,O,B,A,I,J,h6,R,D,h9⟩:=hb.box
 have hQ:=PG (gr:=gr0) B A (by omega) (by omega) a f
 have W:=Q6 D.sl hok.fc hok.many o a f z w p y t v d l j m i n k C F
 have Z:(H.get rb).isSome=true:=by rw[O];rfl
 have l7:(H.get ru).isSome=true:=by rw[R];rfl
 have P:=λ(H':ai)(h:H'.get ru=some (bn (cI y4 b.used)))=>F7 (g:=H'.get) hok.used h ⟨a,f⟩
 have c4:=I.s.cells
 have c5:=J.s.cells
 have c8:=λb1=>(D.cons hF (dep+1) 3 (some b1)).r
 have d8:=D.cells
 have N:=cF.refl hF
 have G : ∀b1:bA,cF H ((⟨dep+1,3,H.gen (dep+1) 3,0⟩,some b1) :: H):=λb1=>cF.cons hF _ _ _
 have K : ∀b1 b2:bA,cF H ((⟨dep+1,6,H.gen (dep+1) 6,0⟩,some b2) :: (⟨dep+1,3,H.gen (dep+1) 3,0⟩,some b1) :: H):=λb1 b2=>⟨by simp(maxDischargeDepth:=12) [ai.get_put,an,aj,Fr.nil,au,af,ah,ad,ae,ao,ak,aa, *],λq c L=>by
  have S:(H.get q).isSome=true:=by rw[L];rfl
  simp[af hF S,L]⟩
 unfold uE
 simp only
 generalize qS us0 qs gr0 a f=q at *
 generalize vC (cm ⟨a,f⟩ b.used)=u at *
 generalize py b.fc (⟨o,⟨a,f,z⟩,w,⟨⟨⟨p,y,t⟩,v⟩,d⟩,⟨⟨l,j,m⟩,i⟩,⟨n,k⟩,E⟩:aN)=e at *
 obtain⟨q1,X,q3,q4,Q⟩:=q
 obtain⟨u1,U,M⟩:=u
 clear hb I J D hok
 by_cases he:e=0
 ·by_cases T:o=1
  ·subst T
   by_cases hc:Q<IntKind.i64.wrap (M+d)
   ·simp[af,ah,ad,ae,aa, *,cL,B.r,A.r,C.r,aC.enc,zM.av]
   ·simp[af,ah,ad,ae,aa, *,cL,B.r,A.r,C.r,aC.enc,zM.av]
  ·simp[af,ah,ad,ae,aa, *,cL,B.r,A.r,C.r,aC.enc,zM.av]
 ·simp[af,ah,ad,ae,aa, *,cL,B.r,A.r,C.r,aC.enc,zM.av]
end
end Go.Proofs.YtdbiffjdomokfaaGreat
namespace Go.Proofs.YtdbiffjdomokfaaGreat
open Go.Ab
attribute [local simp] aU aK aG aW aV cz lT ba aO aQ cg cf bI bc ay bE gw
theorem BA(g:db)(a b:List Ref):jX g (a++b)=(jX g a&&jX g b):=by
 unfold jX;rw[List.all_append]
theorem I7{f:FuncId}(i:(env.mode f == 2)=true){dep:Nat}{H:ai}{args:List AV}{y:AV}(h : ∃H',cE env dep (.fn f) args H=some (y,H')/\cF H H')(d:flat depth y=true)(r:Ref) :
 mY env true (aF env) (cE env dep) H r (some (.fn (.func f) [] [])) args=some (y,H):=by
 obtain⟨H',g,j⟩:=h
 have a:env.mode f=2:=by simpa using i
 have e:([]++args++[]:List AV)=args:=by simp
 have c:env.sm.f H H'=true:=Mx j.old
 simp only[mY,kn,mT,if_pos a,e,g,mz,EY,Ek,cond_true]
 show p8 true env.sm H (some (y,H'))=_
 simp only[p8,d,c,Bool.or_true,zY,if_true]
@[simp] theorem adZ(y:AV):qR AV.undef y=true:=id rfl
def nB(b:ji)(o:aN):A7:=s9 (cm o.h b.ses)
def pf(b:ji)(o:aN):zM:=vC (cm ⟨o.h.lv,o.h.cats⟩ b.used)
def ED(us0:List Clear)(qs:List aC)(gr0:Int)(b:ji)(r:cB):Bool:=
 !(nB b r.op).o&&(Ao b qs r.user r.op.h.lv r.op.h.cats&&decide ((pf b r.op).opens<(qS us0 qs gr0 r.op.h.lv r.op.h.cats).opens))
def C0(us0:List Clear)(qs:List aC)(gr0:Int)(b:ji)(r:cB):Bool:=
 (nB b r.op).o&&(Ao b qs (nB b r.op).u r.op.h.lv r.op.h.cats&&(decide (r.op.serial=IntKind.i64.wrap ((nB b r.op).s+1))&&(decide ((pf b r.op).ops<(qS us0 qs gr0 r.op.h.lv r.op.h.cats).ops)&&decide (r.code=uE us0 qs gr0 b r.op))))
def EC(qs:List aC)(b:ji)(r:cB):Bool:=decide (w9 b.us qs b.gr r.gu r.gv r.gc r.gok=0)
section
variable(dep:Nat){H:ai}(hF:Fr H){rb:Ref}{us0:List Clear}{qs:List aC}{gr0:Int}{b:ji}(hb:Eg H rb us0 qs gr0 b)(hok:zm b)(hul:us0.length<1000000)(hql:qs.length<1000000)
include hF hb hok hul hql
theorem Z9(k:UInt8)(u:Int)(t:UInt8)(a:UInt8)(d:UInt32)(l:UInt8)(A:Int)(q:UInt8)(B:UInt32)(y:UInt8)(z:Int)(m:Int)(i:UInt8)(f:UInt32)(j:UInt8)(e:Int)(n:UInt8)(h:UInt32)(c I:Int)(v:UInt8)(w:UInt32)(o:Bool){x:AV}{O:List Int}(K:Sl 1 (rows O) x) :
 ∃H',cE env dep (.fn 71) [.ptr rb 0 0,.agg [a8 k,aI u,a8 t,a8 a,aw d,a8 l,aI A,a8 q,aw B,a8 y,aI z,aI m,a8 i,aw f,a8 j,aI e,a8 n,aw h,x,aI c,aI I,a8 v,aw w,aB o]] H=some (aB (ED us0 qs gr0 b ⟨k,u,(⟨t,⟨a,d,l⟩,A,⟨⟨⟨q,B,y⟩,z⟩,m⟩,⟨⟨i,f,j⟩,e⟩,⟨n,h⟩,O⟩:aN),c,I,v,w,o⟩),H')/\cF H H':=by
 refine hY (fn:=Tryz.f71) (c:=Dc) (by kernel_rfl) (by kernel_rfl) (by kernel_rfl) (by kernel_rfl) (by kernel_rfl) ?_
 refine Ck _ _ _ _ _ λg=>?_
 have C : ∀b1:bA,cF H ((⟨dep+1,3,H.gen (dep+1) 3,0⟩,some b1) :: H):=λb1=>cF.cons hF _ _ _
 have W:=left_at (dep+1) (C ⟨24,[.agg [a8 k,aI u,a8 t,a8 a,aw d,a8 l,aI A,a8 q,aw B,a8 y,aI z,aI m,a8 i,aw f,a8 j,aI e,a8 n,aw h,x,aI c,aI I,a8 v,aw w,aB o]],false,false⟩).fr (hb.grow (C _)) hok hul hql a d
 simp[af,ah,ad,ae,aa, *,wD,K.r]
 refine nj (by kernel_rfl) W λX L=>?_
 have p:=(C _).trans L
 have F:=L.old ⟨dep+1,3,H.gen (dep+1) 3,0⟩ _ (by simp;rfl)
 have E:=hb.grow p
 obtain⟨xu,xq,yu,yq,wu,wq,xr,rs,ru,xh,vh,M,R,P,U,Z,Y,h7,T,h9⟩:=E.box
 have D:=JW (g:=X.get) hok.ses Y ⟨a,d,l⟩
 have V:=Ut (dep+1) p.fr E hok hul hql u a d
 have S:=U.s.cells
 have N:=Z.s.cells
 have Q:=T.cells
 unfold ED nB pf
 simp only
 generalize Ao b qs u a d=mn at *
 generalize decide ((vC (cm ⟨a,d⟩ b.used)).opens<(qS us0 qs gr0 a d).opens)=lo at *
 generalize s9 (cm ⟨a,d,l⟩ b.ses)=ss at *
 obtain⟨s1,s2,s3⟩:=ss
 cases s1 with
 | true=>simp[F,M,D,K.r,S,N,Q,R.r,P.r,A7.av,p]
 | false=>
  simp[F,M,D,K.r,S,N,Q,R.r,P.r,A7.av]
  refine nj (by kernel_rfl) V λH3 G=>?_
  have J:=p.trans G
  cases mn<;>simp[J]
theorem Z7(k:UInt8)(u:Int)(A:UInt8)(a:UInt8)(d:UInt32)(t:UInt8)(y:Int)(z:UInt8)(D:UInt32)(B:UInt8)(C:Int)(m:Int)(j:UInt8)(f:UInt32)(l:UInt8)(e:Int)(n:UInt8)(i:UInt32)(c T:Int)(v:UInt8)(w:UInt32)(o:Bool){x:AV}{K:List Int}(G:Sl 1 (rows K) x)(M:K.length<1000000) :
 ∃H',cE env dep (.fn 75) [.ptr rb 0 0,.agg [a8 k,aI u,a8 A,a8 a,aw d,a8 t,aI y,a8 z,aw D,a8 B,aI C,aI m,a8 j,aw f,a8 l,aI e,a8 n,aw i,x,aI c,aI T,a8 v,aw w,aB o]] H=some (aB (C0 us0 qs gr0 b ⟨k,u,(⟨A,⟨a,d,t⟩,y,⟨⟨⟨z,D,B⟩,C⟩,m⟩,⟨⟨j,f,l⟩,e⟩,⟨n,i⟩,K⟩:aN),c,T,v,w,o⟩),H')/\cF H H':=by
 refine hY (fn:=Tryz.f75) (c:=Da) (by kernel_rfl) (by kernel_rfl) (by kernel_rfl) (by kernel_rfl) (by kernel_rfl) ?_
 refine Ci _ _ _ _ _ λg=>?_
 have E : ∀b1 b2:bA,cF H ((⟨dep+1,5,H.gen (dep+1) 5,0⟩,some b2) :: (⟨dep+1,3,H.gen (dep+1) 3,0⟩,some b1) :: H):=λb1 b2=>⟨by simp(maxDischargeDepth:=12) [ai.get_put,an,aj,Fr.nil,au,af,ah,ad,ae,ao,ak,aa, *],λq c U=>by
  have Y:(H.get q).isSome=true:=by rw[U];rfl
  simp[af hF Y,U]⟩
 obtain⟨xu,xq,yu,yq,wu,wq,xr,rs,ru,xh,vh,O,h2,h3,P,S,R,h7,N,h9⟩:=hb.box
 have l1:(H.get rb).isSome=true:=by rw[O];rfl
 have l6:(H.get rs).isSome=true:=by rw[R];rfl
 have c4:=P.s.cells
 have c5:=S.s.cells
 have c8:=N.cells
 have J:=λ(H':ai)(h:H'.get rs=some (bn (cI Au b.ses)))=>JW (g:=H'.get) hok.ses h ⟨a,d,t⟩
 unfold C0 nB pf
 simp only
 generalize V:s9 (cm ⟨a,d,t⟩ b.ses)=ss at *
 obtain⟨s1,s2,X⟩:=ss
 simp[af,ah,ad,ae,aa, *,wB,G.r,O,R,J,A7.av]
 refine nj (by kernel_rfl) (left_at (dep+1) (E _ _).fr (hb.grow (E _ _)) hok hul hql _ _) λH4 I=>?_
 have p:=(E _ _).trans I
 have b3:=I.old ⟨dep+1,3,H.gen (dep+1) 3,0⟩ _ (by simp;rfl)
 have b5:=I.old ⟨dep+1,5,H.gen (dep+1) 5,0⟩ _ (by simp;rfl)
 have F:=hb.grow p
 have L:=I7 (by kernel_rfl) (Ut (dep+1) I.fr F hok hul hql s2 a d) rfl
 have Z:=I7 (by kernel_rfl) (NT (dep+1) I.fr F hok hul hql A a d t y z D B C m j f l e n i G M) rfl
 generalize Ao b qs s2 a d=mn at *
 generalize decide ((vC (cm ⟨a,d⟩ b.used)).opens<(qS us0 qs gr0 a d).opens)=lo at *
 generalize decide ((vC (cm ⟨a,d⟩ b.used)).ops<(qS us0 qs gr0 a d).ops)=lp at *
 generalize uE us0 qs gr0 b (⟨A,⟨a,d,t⟩,y,⟨⟨⟨z,D,B⟩,C⟩,m⟩,⟨⟨j,f,l⟩,e⟩,⟨n,i⟩,K⟩:aN)=ve at *
 have W:=I.fr
 clear hb F P S N hok J
 cases s1 with
 | false=>simp[b3,b5,G.r,mQ,p]
 | true=>
 cases mn with
 | false=>simp[b3,b5,G.r,mQ,L,p]
 | true=>
 by_cases Q:y=IntKind.i64.wrap (X+1)
 ·subst Q
  cases lp with
  | false=>simp[b3,b5,G.r,mQ,L,p]
  | true=>simp[b3,b5,G.r,mQ,L,Z,p]
 ·simp[b3,b5,G.r,mQ,L,Q,p]
theorem Z5(k:UInt8)(u:Int)(n:UInt8)(m:UInt8)(B:UInt32)(A:UInt8)(y:Int)(l:UInt8)(z:UInt32)(p:UInt8)(t:Int)(i:Int)(f:UInt8)(d:UInt32)(h:UInt8)(a:Int)(j:UInt8)(e:UInt32)(c E:Int)(v:UInt8)(w:UInt32)(o:Bool){x:AV}{I:List Int}(O:Sl 1 (rows I) x) :
 ∃H',cE env dep (.fn 79) [.ptr rb 0 0,.agg [a8 k,aI u,a8 n,a8 m,aw B,a8 A,aI y,a8 l,aw z,a8 p,aI t,aI i,a8 f,aw d,a8 h,aI a,a8 j,aw e,x,aI c,aI E,a8 v,aw w,aB o]] H=some (aB (EC qs b ⟨k,u,(⟨n,⟨m,B,A⟩,y,⟨⟨⟨l,z,p⟩,t⟩,i⟩,⟨⟨f,d,h⟩,a⟩,⟨j,e⟩,I⟩:aN),c,E,v,w,o⟩),H')/\cF H H':=by
 refine hY (fn:=Tryz.f79) (c:=C9) (by kernel_rfl) (by kernel_rfl) (by kernel_rfl) (by kernel_rfl) (by kernel_rfl) ?_
 refine Ch _ _ _ _ _ λg=>?_
 obtain⟨xu,xq,yu,W,wu,wq,xr,rs,ru,U,vh,Q,M,K,C,D,h6,h7,F,h9⟩:=hb.box
 have X:(H.get rb).isSome=true:=by rw[Q];rfl
 have c4:=λb1=>(C.s.cons hF (dep+1) 3 (some b1)).r
 have Y:=λb1=>(D.s.cons hF (dep+1) 3 (some b1)).r
 have d4:=C.s.cells
 have d5:=D.s.cells
 have Z:=F.cells
 have L : ∀b1 b2:bA,cF H ((⟨dep+1,5,H.gen (dep+1) 5,0⟩,some b2) :: (⟨dep+1,3,H.gen (dep+1) 3,0⟩,some b1) :: H):=λb1 b2=>⟨by simp(maxDischargeDepth:=12) [ai.get_put,an,aj,Fr.nil,au,af,ah,ad,ae,ao,ak,aa, *],λq c P=>by
  have R:(H.get q).isSome=true:=by rw[P];rfl
  simp[af hF R,P]⟩
 unfold EC
 simp only
 have N:=hok.few
 by_cases J:w9 b.us qs b.gr E v w o=0
 ·obtain⟨V,G,S⟩:=Lx (gr:=b.gr) C.s.sl D.s.sl (by omega) (by omega) E v w o J
  have z4:=(mH.grow C (cF.cons hF (dep+1) 3 ⟨24,[.agg [a8 k,aI u,a8 n,a8 m,aw B,a8 A,aI y,a8 l,aw z,a8 p,aI t,aI i,a8 f,aw d,a8 h,aI a,a8 j,aw e,x,aI c,aI E,a8 v,aw w,aB o]],false,false⟩)).refs 6
  have z5:=(mH.grow D (cF.cons hF (dep+1) 3 ⟨24,[.agg [a8 k,aI u,a8 n,a8 m,aw B,a8 A,aI y,a8 l,aw z,a8 p,aI t,aI i,a8 f,aw d,a8 h,aI a,a8 j,aw e,x,aI c,aI E,a8 v,aw w,aB o]],false,false⟩)).refs 6
  have T:=G.r
  clear hb C D F hok
  simp[af,ah,ad,ae,aa, *,rH,O.r,M.r,K.r,BA]
  done
 ·have S:=Q5 (gr:=b.gr) C.s.sl D.s.sl (by omega) (by omega) E v w o J
  clear hb C D F hok
  simp[af,ah,ad,ae,aa, *,rH,O.r,M.r,K.r]
end
end Go.Proofs.YtdbiffjdomokfaaGreat
namespace Go.Proofs.YtdbiffjdomokfaaGreat
open Go.Ab
attribute [local simp] aU aK aG aW aV cz lT ba aO aQ cg cf bI bc ay bE gw
structure lj (H:ai) (rb rs ru:Ref) (xh xr:AV) (us0:List Clear) (qs:List aC) (gr0:Int) (b:ji):Prop where
 box : ∃xu xq yu yq wu wq,H.get rb=some ⟨10,[.agg [xu,xq,aI gr0,yu,yq,aI b.gr,xr,.mp rs,.mp ru,xh]],false,false⟩/\Sl 3 (cW us0) xu/\Sl 5 (cN qs) xq/\mH 3 (cW b.us) H yu wu/\mH 5 (cN qs) H yq wq
 ses:H.get rs=some (bn (cI Au b.ses))
 use:H.get ru=some (bn (cI y4 b.used))
 fc:Own 17 (cD b.fc) H xh
 one:xr.cells=[xr]/\xr.one=true
 sep:rb≠rs/\rb≠ru/\rs≠ru/\xh.at?≠some rb/\xh.at?≠some rs/\xh.at?≠some ru
 t43 : ∀r,xh.at?=some r->r.t=43
theorem sJ{z:Nat}{es:List AV}{H:ai}{x:AV}(h:Own z es H x) : ∃y,kr z es H x y:=by
 rcases h with ⟨rfl,rfl⟩ | ⟨r,rfl,a⟩
 ·exact⟨bZ,.inl ⟨rfl,.inl ⟨rfl,rfl⟩⟩⟩
 ·exact⟨_,.inr ⟨r,none,false,rfl,a,rfl,bD _⟩⟩
theorem lj.at{H:ai}{rb rs ru:Ref}{xh xr:AV}{us0:List Clear}{qs:List aC}{gr0:Int}{b:ji}(h:lj H rb rs ru xh xr us0 qs gr0 b):Eg H rb us0 qs gr0 b:=by
 obtain⟨c,a,m,f,i,j,d,e,k,g,o⟩:=h.box
 obtain⟨l,n⟩:=sJ h.fc
 exact⟨c,a,m,f,i,j,xr,rs,ru,xh,l,d,e,k,g,o,h.ses,h.use,n,h.one⟩
structure Qt (H H':ai) (rb rs ru:Ref) (xh xh':AV):Prop where
 fr:Fr H'
 old : ∀q c,H.get q=some c->q≠rb->q≠rs->q≠ru->xh.at?≠some q->H'.get q=some c/\xh'.at?≠some q
theorem mH.cz{z:Nat}{es:List AV}{H H':ai}{x y:AV}(h:mH z es H x y)(g : ∀q c,H.get q=some c->c.k8=true->H'.get q=some c):mH z es H' x y:=by
 rcases h with h | ⟨r,c,rfl,d,rfl,a⟩
 ·exact .inl h
 ·exact .inr ⟨r,c,rfl,g _ _ d rfl,rfl,a⟩
theorem lj.upd{H H':ai}{rb rs ru:Ref}{xh xr:AV}{us0:List Clear}{qs:List aC}{gr0:Int}{b b':ji}(h:lj H rb rs ru xh xr us0 qs gr0 b)(p:b'.us=b.us)(x:b'.gr=b.gr)(v:b'.fc=b.fc)
 (hF:Fr H') (m:H'.get rs=some (bn (cI Au b'.ses))) (A:H'.get ru=some (bn (cI y4 b'.used))) (d : ∀q c,H.get q=some c->q≠rs->q≠ru->H'.get q=some c) :
 lj H' rb rs ru xh xr us0 qs gr0 b'/\Qt H H' rb rs ru xh xh:=by
 obtain⟨z,y,F,n,B,C,l,j,E,k,t⟩:=h.box
 have g : ∀q c,H.get q=some c->c.k8=true->H'.get q=some c:=by
  intro q c a f
  refine d q c a ?_ ?_
  ·rintro rfl;rw[h.ses]at a;cases a;exact absurd f (by simp[bn])
  ·rintro rfl;rw[h.use]at a;cases a;exact absurd f (by simp[bn])
 refine⟨⟨⟨z,y,F,n,B,C,?_,j,E,?_,t.cz g⟩,m,A,?_,h.one,h.sep,h.t43⟩,⟨hF,λq c a _ u o w=>⟨d q c a u o,w⟩⟩⟩
 ·rw[x];exact d _ _ l h.sep.1 h.sep.2.1
 ·rw[p];exact k.cz g
 ·rw[v]
  rcases h.fc with D | ⟨r,rfl,i⟩
  ·exact .inl D
  ·exact .inr ⟨r,rfl,d _ _ i (λe=>h.sep.2.2.2.2.1 (by rw[e];rfl)) (λe=>h.sep.2.2.2.2.2 (by rw[e];rfl))⟩
def BU(b:ji)(o:aN)(u:Int):ji:=
 {b with ses:=jk o.h (A7.av ⟨true,u,0⟩) b.ses,used:=jk ⟨o.h.lv,o.h.cats⟩ (zM.av { pf b o with opens:=IntKind.i64.wrap ((pf b o).opens+1)}) b.used}
def Hb(b:ji)(o:aN)(a:Int):zM := { pf b o with ops:=IntKind.i64.wrap ((pf b o).ops+1),cells:=if a=0/\o.kind=1 then IntKind.i64.wrap ((pf b o).cells+o.s.many) else (pf b o).cells}
def vG(b:ji)(o:aN)(a:Int)(y:AV):ji:=
 {b with ses:=jk o.h (A7.av { nB b o with s:=IntKind.i64.wrap ((nB b o).s+1)}) b.ses,used:=jk ⟨o.h.lv,o.h.cats⟩ (zM.av (Hb b o a)) b.used,fc:=if a=0 then b.fc++[(o,y)] else b.fc}
def C6(b:ji)(u:Int)(v:UInt8)(c:UInt32)(ok:Bool):ji := { b with us:=b.us.set u.toNat ⟨v,c,ok⟩,gr:=IntKind.i64.wrap (b.gr - 1)}
theorem VW{H:ai}{rs:Ref}{l:List (vI × AV)}(a:H.get rs=some (bn (cI Au l)))(h:vI)(x:AV):dM env.P H 88 (some (.mp rs)) (some (.agg [a8 h.lv,aw h.cats,a8 h.num])) (some x)=some (AV.undef,H.put rs (some (bn (cI Au (jk h x l))))):=
 uD Kp GY (t:=88) (et:=119) (by kernel_rfl) a h x
theorem VV{H:ai}{ru:Ref}{l:List (ib × AV)}(a:H.get ru=some (bn (cI y4 l)))(v:ib)(x:AV):dM env.P H 89 (some (.mp ru)) (some (.agg [a8 v.lv,aw v.cats])) (some x)=some (AV.undef,H.put ru (some (bn (cI y4 (jk v x l))))):=
 uD Ko GP (t:=89) (et:=76) (by kernel_rfl) a v x
section
variable(dep:Nat){H:ai}(hF:Fr H){rb rs ru:Ref}{xh xr:AV}{us0:List Clear}{qs:List aC}{gr0:Int}{b:ji}(hb:lj H rb rs ru xh xr us0 qs gr0 b)(hok:zm b)
include hF hb hok
theorem Z8(k:UInt8)(u:Int)(A:UInt8)(a:UInt8)(d:UInt32)(t:UInt8)(D:Int)(z:UInt8)(E:UInt32)(B:UInt8)(C:Int)(n:Int)(l:UInt8)(i:UInt32)(m:UInt8)(e:Int)(p:UInt8)(j:UInt32)(c T:Int)(v:UInt8)(w:UInt32)(o:Bool){x:AV}{L:List Int}(hx:Sl 1 (rows L) x) :
 ∃H',cE env dep (.fn 74) [.ptr rb 0 0,.agg [a8 k,aI u,a8 A,a8 a,aw d,a8 t,aI D,a8 z,aw E,a8 B,aI C,aI n,a8 l,aw i,a8 m,aI e,a8 p,aw j,x,aI c,aI T,a8 v,aw w,aB o]] H=some (.v (.tuple #[]),H')/\lj H' rb rs ru xh xr us0 qs gr0 (BU b (⟨A,⟨a,d,t⟩,D,⟨⟨⟨z,E,B⟩,C⟩,n⟩,⟨⟨l,i,m⟩,e⟩,⟨p,j⟩,L⟩:aN) u)/\Qt H H' rb rs ru xh xh:=by
 have M:bB env Tryz.f74 (dep+1) [.code Db] (vg 0 [.ptr rb 0 0,.agg [a8 k,aI u,a8 A,a8 a,aw d,a8 t,aI D,a8 z,aw E,a8 B,aI C,aI n,a8 l,aw i,a8 m,aI e,a8 p,aw j,x,aI c,aI T,a8 v,aw w,aB o]]) H λy N=>y = .v (.tuple #[])/\lj N rb rs ru xh xr us0 qs gr0 (BU b (⟨A,⟨a,d,t⟩,D,⟨⟨⟨z,E,B⟩,C⟩,n⟩,⟨⟨l,i,m⟩,e⟩,⟨p,j⟩,L⟩:aN) u)/\Qt H N rb rs ru xh xh:=by
  refine Cj _ _ _ _ _ λg=>?_
  have F:=λH'=>hb.upd (H':=H') (b':=BU b (⟨A,⟨a,d,t⟩,D,⟨⟨⟨z,E,B⟩,C⟩,n⟩,⟨⟨l,i,m⟩,e⟩,⟨p,j⟩,L⟩:aN) u) rfl rfl rfl
  obtain⟨xu,xq,yu,yq,wu,wq,K,S,h3,O,Q⟩:=hb.box
  have P:=hb.ses
  have R:=hb.use
  have c4:=O.s.cells
  have c5:=Q.s.cells
  have c8:xh.cells=[xh]/\xh.one=true:=by obtain⟨_,V⟩:=sJ hb.fc;exact V.cells
  have c9:=hb.one
  have l1:(H.get rb).isSome=true:=by rw[K];rfl
  have l6:(H.get rs).isSome=true:=by rw[P];rfl
  have l7:(H.get ru).isSome=true:=by rw[R];rfl
  obtain⟨s1,s2,Y,_⟩:=hb.sep
  have X:=s1.symm
  have Z:=s2.symm
  have W:=Y.symm
  have G:=λ(H':ai)(h:H'.get rs=some (bn (cI Au b.ses)))=>VW h ⟨a,d,t⟩
  have I:=λ(H':ai)(h:H'.get ru=some (bn (cI y4 b.used)))=>VV h ⟨a,d⟩
  have J:=λ(H':ai)(h:H'.get ru=some (bn (cI y4 b.used)))=>F7 (g:=H'.get) hok.used h ⟨a,d⟩
  simp only[BU,pf]at F
  unfold BU pf
  simp only
  generalize vC (cm ⟨a,d⟩ b.used)=uu at *
  obtain⟨u1,u2,u3⟩:=uu
  clear hb O Q hok
  simp only[A7.av,zM.av]at F
  simp[af,ah,ad,ae,aa, *,wC,hx.r,K,P,R,J,G,I,A7.av,zM.av]
  clear G I J
  refine F _ ?_ ?_ ?_ λq cc U n1 n2=>?_
  ·exact by simp(maxDischargeDepth:=12) [ai.get_put,an,aj,Fr.nil,au,af,ah,ad,ae,ao,ak,aa, *]
  ·exact by simp(maxDischargeDepth:=12) [ai.get_put,an,aj,Fr.nil,au,af,ah,ad,ae,ao,ak,aa, *]
  ·exact by simp(maxDischargeDepth:=12) [ai.get_put,an,aj,Fr.nil,au,af,ah,ad,ae,ao,ak,aa, *]
  ·have lq:(H.get q).isSome=true:=by rw[U];rfl
   simp[af hF lq,ai.get_put,n1,n2,n1.symm,n2.symm,U]
 obtain⟨y,H',K,rfl,S⟩:=pv (f:=74) (by kernel_rfl) (by kernel_rfl) (by kernel_rfl) (by kernel_rfl) (by kernel_rfl) M
 exact⟨H',K,S⟩
theorem Z4(k:UInt8)(u:Int)(z:UInt8)(t:UInt8)(F:UInt32)(E:UInt8)(C:Int)(p:UInt8)(D:UInt32)(A:UInt8)(B:Int)(l:Int)(i:UInt8)(d:UInt32)(j:UInt8)(a:Int)(m:UInt8)(h:UInt32)(c n:Int)(v:UInt8)(w:UInt32)(o:Bool){x:AV}{al:List Int}(hx:Sl 1 (rows al) x)(hql:qs.length<1000000)(he:w9 b.us qs b.gr n v w o=0) :
 ∃H',cE env dep (.fn 81) [.ptr rb 0 0,.agg [a8 k,aI u,a8 z,a8 t,aw F,a8 E,aI C,a8 p,aw D,a8 A,aI B,aI l,a8 i,aw d,a8 j,aI a,a8 m,aw h,x,aI c,aI n,a8 v,aw w,aB o]] H=some (.v (.tuple #[]),H')/\lj H' rb rs ru xh xr us0 qs gr0 (C6 b n v w o)/\Qt H H' rb rs ru xh xh:=by
 have Q:bB env Tryz.f81 (dep+1) [.code C8] (vg 0 [.ptr rb 0 0,.agg [a8 k,aI u,a8 z,a8 t,aw F,a8 E,aI C,a8 p,aw D,a8 A,aI B,aI l,a8 i,aw d,a8 j,aI a,a8 m,aw h,x,aI c,aI n,a8 v,aw w,aB o]]) H λy R=>y = .v (.tuple #[])/\lj R rb rs ru xh xr us0 qs gr0 (C6 b n v w o)/\Qt H R rb rs ru xh xh:=by
  refine Cg _ _ _ _ _ λg=>?_
  obtain⟨U,T,yu,yq,wu,wq,P,M,S,G,J⟩:=hb.box
  have h6:=hb.ses
  have h7:=hb.use
  have c8:xh.cells=[xh]/\xh.one=true:=by obtain⟨_,X⟩:=sJ hb.fc;exact X.cells
  have c9:=hb.one
  have l1:(H.get rb).isSome=true:=by rw[P];rfl
  have V:=hok.few
  have c4:=λb1=>(G.s.cons hF (dep+1) 3 (some b1)).r
  have c5:=λb1=>(J.s.cons hF (dep+1) 3 (some b1)).r
  have d4:=G.s.cells
  have d5:=J.s.cells
  obtain⟨O,I,hA⟩:=Lx (gr:=b.gr) G.s.sl J.s.sl (by omega) (by omega) n v w o he
  have z4:=(mH.grow G (cF.cons hF (dep+1) 3 ⟨24,[.agg [a8 k,aI u,a8 z,a8 t,aw F,a8 E,aI C,a8 p,aw D,a8 A,aI B,aI l,a8 i,aw d,a8 j,aI a,a8 m,aw h,x,aI c,aI n,a8 v,aw w,aB o]],false,false⟩)).refs 6
  have z5:=(mH.grow J (cF.cons hF (dep+1) 3 ⟨24,[.agg [a8 k,aI u,a8 z,a8 t,aw F,a8 E,aI C,a8 p,aw D,a8 A,aI B,aI l,a8 i,aw d,a8 j,aI a,a8 m,aw h,x,aI c,aI n,a8 v,aw w,aB o]],false,false⟩)).refs 6
  have hyr:=I.r
  have K : ∀H',Fr H'->H'.get rb=some ⟨10,[.agg [U,T,aI gr0,.cG 3 (cW (b.us.set n.toNat ⟨v,w,o⟩)) none,O,aI (IntKind.i64.wrap (b.gr - 1)),xr,.mp rs,.mp ru,xh]],false,false⟩->(∀q c,H.get q=some c->q≠rb->H'.get q=some c) ->
   lj H' rb rs ru xh xr us0 qs gr0 (C6 b n v w o)/\Qt H H' rb rs ru xh xh:=by
   intro H' W Z L
   refine⟨⟨⟨U,T,_,O,_,O,Z,M,S,mH.of (Sl.mk _ _) H',mH.of I H'⟩,L _ _ h6 hb.sep.1.symm,L _ _ h7 hb.sep.2.1.symm,?_,c9,hb.sep,hb.t43⟩,⟨W,λq c N n1 n2 n3 n4=>⟨L q c N n1,n4⟩⟩⟩
   rcases hb.fc with ho | ⟨r,rfl,Y⟩
   ·exact .inl ho
   ·exact .inr ⟨r,rfl,L _ _ Y (λe=>hb.sep.2.2.2.1 (by rw[e];rfl))⟩
  clear hb G J hok
  simp[af,ah,ad,ae,aa, *,wA,hx.r,M.r,S.r,BA]
  refine K _ ?_ ?_ λq cc N n1=>?_
  ·exact by simp(maxDischargeDepth:=12) [ai.get_put,an,aj,Fr.nil,au,af,ah,ad,ae,ao,ak,aa, *]
  ·exact by simp(maxDischargeDepth:=12) [ai.get_put,an,aj,Fr.nil,au,af,ah,ad,ae,ao,ak,aa, *]
  ·have lq:(H.get q).isSome=true:=by rw[N];rfl
   simp[af hF lq,ai.get_put,n1,n1.symm,N]
 obtain⟨y,H',P,rfl,M⟩:=pv (f:=81) (by kernel_rfl) (by kernel_rfl) (by kernel_rfl) (by kernel_rfl) (by kernel_rfl) Q
 exact⟨H',P,M⟩
end
end Go.Proofs.YtdbiffjdomokfaaGreat
namespace Go.Proofs.YtdbiffjdomokfaaGreat
open Go.Ab
attribute [local simp] aU aK aG aW aV cz lT ba aO aQ cg cf bI bc ay bE gw
theorem lj.app{H H':ai}{rb rs ru:Ref}{xh xh' xr:AV}{us0:List Clear}{qs:List aC}{gr0:Int}{b b':ji}(h:lj H rb rs ru xh xr us0 qs gr0 b)(A:b'.us=b.us)(w:b'.gr=b.gr)
 (hF:Fr H') (x:H'.get rs=some (bn (cI Au b'.ses))) (y:H'.get ru=some (bn (cI y4 b'.used))) (G:Own 17 (cD b'.fc) H' xh') (z : ∀r,xh'.at?=some r->r.t=43)
 (m : ∀g f k i,H.get rb=some ⟨10,[.agg [g,f,aI gr0,k,i,aI b.gr,xr,.mp rs,.mp ru,xh]],false,false⟩->H'.get rb=some ⟨10,[.agg [g,f,aI gr0,k,i,aI b.gr,xr,.mp rs,.mp ru,xh']],false,false⟩)
 (d : ∀q c,H.get q=some c->xh'.at?≠some q/\(q≠rb->q≠rs->q≠ru->xh.at?≠some q->H'.get q=some c)) :
 lj H' rb rs ru xh' xr us0 qs gr0 b'/\Qt H H' rb rs ru xh xh':=by
 obtain⟨g,f,k,i,C,D,l,u,E,v,B⟩:=h.box
 have n : ∀q c,H.get q=some c->c.k8=true->H'.get q=some c:=by
  intro q c a j
  refine(d q c a).2 ?_ ?_ ?_ ?_
  ·rintro rfl;rw[l]at a;cases a;exact absurd j (by simp)
  ·rintro rfl;rw[h.ses]at a;cases a;exact absurd j (by simp[bn])
  ·rintro rfl;rw[h.use]at a;cases a;exact absurd j (by simp[bn])
  ·intro e
   rcases h.fc with ⟨rfl,_⟩ | ⟨r,rfl,p⟩
   ·cases e
   ·simp only[AV.at?,dR]at e;subst e;rw[p]at a;cases a;exact absurd j (by simp)
 refine⟨⟨⟨g,f,k,i,C,D,?_,u,E,?_,B.cz n⟩,x,y,G,h.one,⟨h.sep.1,h.sep.2.1,h.sep.2.2.1,(d _ _ l).1,(d _ _ h.ses).1,(d _ _ h.use).1⟩,z⟩,⟨hF,λq c a n1 n2 F o=>⟨(d q c a).2 n1 n2 F o,(d q c a).1⟩⟩⟩
 ·rw[w];exact m _ _ _ _ l
 ·rw[A];exact v.cz n
theorem C5{H:ai}{rs:Ref}{l:List (vI × AV)}(c:H.get rs=some (bn (cI Au l)))(h:vI){K:AV->ai->Prop}{m:Mk (iH env.P H 88 (some (.mp rs)) (some (.agg [a8 h.lv,aw h.cats,a8 h.num])),K)}
 (d : ∀(i:Nat) a,(∀(H':ai) x,H'.get rs=some (bn (cI Au a))->fD H' (some (.mp rs)) (some (aI i)) (some x)=some (AV.undef,H'.put rs (some (bn (cI Au (jk h x l)))))) ->∀z,K (.tup [z,aI i]) (H.put rs (some (bn (cI Au a))))) :
 lQ (iH env.P H 88 (some (.mp rs)) (some (.agg [a8 h.lv,aw h.cats,a8 h.num]))) K m:=by
 obtain⟨i,a,f,⟨x0,e⟩,j⟩:=Bk Kp GY (t:=88) (et:=119) (by kernel_rfl) (z := .agg [aB false,aI 0,aI 0]) (by kernel_rfl) c h
 refine tI f (d i a (λH' x g=>?_) _)
 rw[<-j x]
 exact zy g e _ x
theorem C4{H:ai}{ru:Ref}{l:List (ib × AV)}(c:H.get ru=some (bn (cI y4 l)))(v:ib){K:AV->ai->Prop}{m:Mk (iH env.P H 89 (some (.mp ru)) (some (.agg [a8 v.lv,aw v.cats])),K)}
 (d : ∀(i:Nat) a,(∀(H':ai) x,H'.get ru=some (bn (cI y4 a))->fD H' (some (.mp ru)) (some (aI i)) (some x)=some (AV.undef,H'.put ru (some (bn (cI y4 (jk v x l)))))) ->∀z,K (.tup [z,aI i]) (H.put ru (some (bn (cI y4 a))))) :
 lQ (iH env.P H 89 (some (.mp ru)) (some (.agg [a8 v.lv,aw v.cats]))) K m:=by
 obtain⟨i,a,f,⟨x0,e⟩,h⟩:=Bk Ko GP (t:=89) (et:=76) (by kernel_rfl) (z := .agg [a8 0,aw 0,aI 0,aI 0,aI 0]) (by kernel_rfl) c v
 refine tI f (d i a (λH' x g=>?_) _)
 rw[<-h x]
 exact zy g e _ x
section
variable(dep:Nat){H:ai}(hF:Fr H){rb rs ru:Ref}{xh xr:AV}{us0:List Clear}{qs:List aC}{gr0:Int}{b:ji}(hb:lj H rb rs ru xh xr us0 qs gr0 b)(hok:zm b)
include hF hb hok
theorem Z6(k:UInt8)(u:Int)(B:UInt8)(a:UInt8)(d:UInt32)(p:UInt8)(E:Int)(A:UInt8)(F:UInt32)(C:UInt8)(D:Int)(t:Int)(m:UInt8)(i:UInt32)(n:UInt8)(e:Int)(z:UInt8)(j:UInt32)(c W:Int)(v:UInt8)(w:UInt32)(o:Bool){x:AV}{N:List Int}(hx:Sl 1 (rows N) x)(O:c≠0) :
 ∃H',cE env dep (.fn 77) [.ptr rb 0 0,.agg [a8 k,aI u,a8 B,a8 a,aw d,a8 p,aI E,a8 A,aw F,a8 C,aI D,aI t,a8 m,aw i,a8 n,aI e,a8 z,aw j,x,aI c,aI W,a8 v,aw w,aB o]] H=some (.v (.tuple #[]),H')/\lj H' rb rs ru xh xr us0 qs gr0 (vG b (⟨B,⟨a,d,p⟩,E,⟨⟨⟨A,F,C⟩,D⟩,t⟩,⟨⟨m,i,n⟩,e⟩,⟨z,j⟩,N⟩:aN) c bZ)/\Qt H H' rb rs ru xh xh:=by
 have P:bB env Tryz.f77 (dep+1) [.code wx] (vg 0 [.ptr rb 0 0,.agg [a8 k,aI u,a8 B,a8 a,aw d,a8 p,aI E,a8 A,aw F,a8 C,aI D,aI t,a8 m,aw i,a8 n,aI e,a8 z,aw j,x,aI c,aI W,a8 v,aw w,aB o]]) H λy Q=>y = .v (.tuple #[])/\lj Q rb rs ru xh xr us0 qs gr0 (vG b (⟨B,⟨a,d,p⟩,E,⟨⟨⟨A,F,C⟩,D⟩,t⟩,⟨⟨m,i,n⟩,e⟩,⟨z,j⟩,N⟩:aN) c bZ)/\Qt H Q rb rs ru xh xh:=by
  refine vS _ _ _ _ _ λg=>?_
  have I:=λH'=>hb.upd (H':=H') (b':=vG b (⟨B,⟨a,d,p⟩,E,⟨⟨⟨A,F,C⟩,D⟩,t⟩,⟨⟨m,i,n⟩,e⟩,⟨z,j⟩,N⟩:aN) c bZ) rfl rfl (by simp[vG,O])
  obtain⟨xu,xq,yu,yq,wu,wq,M,V,h3,R,T⟩:=hb.box
  have S:=hb.ses
  have U:=hb.use
  have c4:=R.s.cells
  have c5:=T.s.cells
  have c8:xh.cells=[xh]/\xh.one=true:=by obtain⟨_,Y⟩:=sJ hb.fc;exact Y.cells
  have c9:=hb.one
  have l1:(H.get rb).isSome=true:=by rw[M];rfl
  have l6:(H.get rs).isSome=true:=by rw[S];rfl
  have l7:(H.get ru).isSome=true:=by rw[U];rfl
  obtain⟨s1,s2,s3,_⟩:=hb.sep
  have s1':=s1.symm
  have s2':=s2.symm
  have Z:=s3.symm
  have J:=λ(H':ai)(h:H'.get ru=some (bn (cI y4 b.used)))=>F7 (g:=H'.get) hok.used h ⟨a,d⟩
  have G:=λ(H':ai)(h:H'.get rs=some (bn (cI Au b.ses)))=>JW (g:=H'.get) hok.ses h ⟨a,d,p⟩
  simp only[vG,Hb,pf,nB,O,false_and,if_false]at I
  unfold vG Hb pf nB
  simp only[O,false_and,if_false]
  generalize vC (cm ⟨a,d⟩ b.used)=uu at *
  obtain⟨u1,u2,u3⟩:=uu
  generalize s9 (cm ⟨a,d,p⟩ b.ses)=ss at *
  obtain⟨t1,t2,t3⟩:=ss
  clear hb R T hok
  simp only[A7.av,zM.av]at I
  simp[af,ah,ad,ae,aa, *,jA,hx.r,M,S,U,J,G,A7.av,zM.av,mQ,qR,ju,wT,O]
  refine C5 (l:=b.ses) ?_ ⟨a,d,p⟩ λi1 m1 K z1=>?_
  ·exact by simp(maxDischargeDepth:=12) [ai.get_put,an,aj,Fr.nil,au,af,ah,ad,ae,ao,ak,aa, *]
  simp[af,ah,ad,ae,aa, *,ai.get_put,K]
  refine C4 (l:=b.used) ?_ ⟨a,d⟩ λi2 m2 L z2=>?_
  ·exact by simp(maxDischargeDepth:=12) [ai.get_put,an,aj,Fr.nil,au,af,ah,ad,ae,ao,ak,aa, *]
  simp[af,ah,ad,ae,aa, *,ai.get_put,L]
  clear J G K L
  refine I _ ?_ ?_ ?_ λq cc X n1 n2=>?_
  ·exact by simp(maxDischargeDepth:=12) [ai.get_put,an,aj,Fr.nil,au,af,ah,ad,ae,ao,ak,aa, *]
  ·exact by simp(maxDischargeDepth:=12) [ai.get_put,an,aj,Fr.nil,au,af,ah,ad,ae,ao,ak,aa, *]
  ·exact by simp(maxDischargeDepth:=12) [ai.get_put,an,aj,Fr.nil,au,af,ah,ad,ae,ao,ak,aa, *]
  ·have lq:(H.get q).isSome=true:=by rw[X];rfl
   simp[af hF lq,ai.get_put,n1,n2,n1.symm,n2.symm,X]
 obtain⟨y,H',M,rfl,V⟩:=pv (f:=77) (by kernel_rfl) (by kernel_rfl) (by kernel_rfl) (by kernel_rfl) (by kernel_rfl) P
 exact⟨H',M,V⟩
theorem W5(k:UInt8)(u:Int)(E:UInt8)(a:UInt8)(d:UInt32)(m:UInt8)(K:Int)(I:UInt8)(G:UInt32)(F:UInt8)(J:Int)(j:Int)(n:UInt8)(A:UInt32)(C:UInt8)(p:Int)(D:UInt8)(B:UInt32)(g1:Int)(v:UInt8)(w:UInt32)(o:Bool){x:AV}{U:List Int}(hx:Sl 1 (rows U) x)(hal:U.length<1000000) :
 ∃H' xh',cE env dep (.fn 77) [.ptr rb 0 0,.agg [a8 k,aI u,a8 E,a8 a,aw d,a8 m,aI K,a8 I,aw G,a8 F,aI J,aI j,a8 n,aw A,a8 C,aI p,a8 D,aw B,x,aI 0,aI g1,a8 v,aw w,aB o]] H=some (.v (.tuple #[]),H')/\lj H' rb rs ru xh' xr us0 qs gr0 (vG b (⟨E,⟨a,d,m⟩,K,⟨⟨⟨I,G,F⟩,J⟩,j⟩,⟨⟨n,A,C⟩,p⟩,⟨D,B⟩,U⟩:aN) 0 (uQ x))/\Qt H H' rb rs ru xh xh':=by
 obtain⟨y,ht,hy,hT⟩:=Tn E a d m K I G F J j n A C p D B hx hal
 rw[<-ht]
 clear ht
 have hgo:bB env Tryz.f77 (dep+1) [.code wx] (vg 0 [.ptr rb 0 0,.agg [a8 k,aI u,a8 E,a8 a,aw d,a8 m,aI K,a8 I,aw G,a8 F,aI J,aI j,a8 n,aw A,a8 C,aI p,a8 D,aw B,x,aI 0,aI g1,a8 v,aw w,aB o]]) H λz H1=>z = .v (.tuple #[]) /\∃xh',lj H1 rb rs ru xh' xr us0 qs gr0 (vG b (⟨E,⟨a,d,m⟩,K,⟨⟨⟨I,G,F⟩,J⟩,j⟩,⟨⟨n,A,C⟩,p⟩,⟨D,B⟩,U⟩:aN) 0 y)/\Qt H H1 rb rs ru xh xh':=by
  refine vS _ _ _ _ _ λg=>?_
  obtain⟨xu,xq,yu,yq,wu,wq,V,h2,h3,h4,h5⟩:=hb.box
  have h6:=hb.ses
  have h7:=hb.use
  have c4:=h4.s.cells
  have c5:=h5.s.cells
  have c8:xh.cells=[xh]/\xh.one=true:=by obtain⟨_,hs⟩:=sJ hb.fc;exact hs.cells
  have c9:=hb.one
  have l1:(H.get rb).isSome=true:=by rw[V];rfl
  have l6:(H.get rs).isSome=true:=by rw[h6];rfl
  have l7:(H.get ru).isSome=true:=by rw[h7];rfl
  have hyr:=hy.r
  obtain⟨s1,s2,s3,s4,s5,s6⟩:=hb.sep
  have s1':=s1.symm
  have s2':=s2.symm
  have s3':=s3.symm
  have O:=λ(H':ai)(h:H'.get ru=some (bn (cI y4 b.used)))=>F7 (g:=H'.get) hok.used h ⟨a,d⟩
  have L:=λ(H':ai)(h:H'.get rs=some (bn (cI Au b.ses)))=>JW (g:=H'.get) hok.ses h ⟨a,d,m⟩
  have X:=hok.many
  have heo:cD (vG b (⟨E,⟨a,d,m⟩,K,⟨⟨⟨I,G,F⟩,J⟩,j⟩,⟨⟨n,A,C⟩,p⟩,⟨D,B⟩,U⟩:aN) 0 y).fc=cD b.fc++[.agg [a8 E,a8 a,aw d,a8 m,aI K,a8 I,aw G,a8 F,aI J,aI j,a8 n,aw A,a8 C,aI p,a8 D,aw B,y]]:=by simp[vG,cD,y6]
  have hds:(vG b (⟨E,⟨a,d,m⟩,K,⟨⟨⟨I,G,F⟩,J⟩,j⟩,⟨⟨n,A,C⟩,p⟩,⟨D,B⟩,U⟩:aN) 0 y).ses=jk ⟨a,d,m⟩ (A7.av { s9 (cm ⟨a,d,m⟩ b.ses)with s:=IntKind.i64.wrap ((s9 (cm ⟨a,d,m⟩ b.ses)).s+1)}) b.ses:=rfl
  have hdu:(vG b (⟨E,⟨a,d,m⟩,K,⟨⟨⟨I,G,F⟩,J⟩,j⟩,⟨⟨n,A,C⟩,p⟩,⟨D,B⟩,U⟩:aN) 0 y).used=jk ⟨a,d⟩ (zM.av { vC (cm ⟨a,d⟩ b.used)with ops:=IntKind.i64.wrap ((vC (cm ⟨a,d⟩ b.used)).ops+1),cells:=if E=1 then IntKind.i64.wrap ((vC (cm ⟨a,d⟩ b.used)).cells+j) else (vC (cm ⟨a,d⟩ b.used)).cells}) b.used:=by
   simp[vG,Hb,pf]
  have Y:=jy b.fc
  generalize vC (cm ⟨a,d⟩ b.used)=uu at *
  obtain⟨u1,u2,u3⟩:=uu
  generalize s9 (cm ⟨a,d,m⟩ b.ses)=ss at *
  obtain⟨t1,t2,t3⟩:=ss
  have fc:=hb.fc
  have Z:=hb.t43
  have S:=λH' xh'=>lj.app (H':=H') (xh':=xh') (b':=vG b (⟨E,⟨a,d,m⟩,K,⟨⟨⟨I,G,F⟩,J⟩,j⟩,⟨⟨n,A,C⟩,p⟩,⟨D,B⟩,U⟩:aN) 0 y) hb rfl rfl
  rw[hds,hdu,heo]at S
  simp only[A7.av,zM.av]at S
  clear hds hdu heo hb h4 h5
  have hbx : ∀(xh':AV)(H':ai),H'.get rb=some ⟨10,[.agg [xu,xq,aI gr0,yu,yq,aI b.gr,xr,.mp rs,.mp ru,xh']],false,false⟩ ->∀xu xq yu yq,H.get rb=some ⟨10,[.agg [xu,xq,aI gr0,yu,yq,aI b.gr,xr,.mp rs,.mp ru,xh]],false,false⟩->H'.get rb=some ⟨10,[.agg [xu,xq,aI gr0,yu,yq,aI b.gr,xr,.mp rs,.mp ru,xh']],false,false⟩:=by
   intro xh' H' h xu' xq' yu' yq' h'
   rw[V]at h'
   simp only[dR,bA.mk.injEq,zt,AV.agg.injEq,and_true,true_and]at h'
   obtain⟨rfl,rfl,rfl,rfl⟩:=h'
   exact h
  have i : ∀(H':ai)(xh':AV),Fr H'->H'.get rs=some (bn (cI Au (jk ⟨a,d,m⟩ (.agg [aB t1,aI t2,aI (IntKind.i64.wrap (t3+1))]) b.ses))) ->
   H'.get ru=some (bn (cI y4 (jk ⟨a,d⟩ (.agg [a8 0,aw 0,aI u1,aI (IntKind.i64.wrap (u2+1)),aI (if E=1 then IntKind.i64.wrap (u3+j) else u3)]) b.used)))->Own 17 (cD b.fc++[.agg [a8 E,a8 a,aw d,a8 m,aI K,a8 I,aw G,a8 F,aI J,aI j,a8 n,aw A,a8 C,aI p,a8 D,aw B,y]]) H' xh'->(∀r,xh'.at?=some r->r.t=43) ->
   H'.get rb=some ⟨10,[.agg [xu,xq,aI gr0,yu,yq,aI b.gr,xr,.mp rs,.mp ru,xh']],false,false⟩->(∀q c,H.get q=some c->xh'.at?≠some q/\(q≠rb->q≠rs->q≠ru->xh.at?≠some q->H'.get q=some c)) ->
   ∃xh',lj H' rb rs ru xh' xr us0 qs gr0 (vG b (⟨E,⟨a,d,m⟩,K,⟨⟨⟨I,G,F⟩,J⟩,j⟩,⟨⟨n,A,C⟩,p⟩,⟨D,B⟩,U⟩:aN) 0 y)/\Qt H H' rb rs ru xh xh':=
   λH' xh' a1 a2 a3 a4 at' a5 a6=>⟨xh',S H' xh' a1 a2 a3 a4 at' (hbx _ _ a5) a6⟩
  clear S hbx
  generalize cD b.fc=eo at *
  generalize b.fc.length=nh at *
  clear hok
  generalize vG b (⟨E,⟨a,d,m⟩,K,⟨⟨⟨I,G,F⟩,J⟩,j⟩,⟨⟨n,A,C⟩,p⟩,⟨D,B⟩,U⟩:aN) 0 y=B' at *
  revert i
  rcases fc with ⟨rfl,rfl⟩ | ⟨r,rfl,h8⟩
  ·clear Y Z X nh
   by_cases P:E=1
   ·subst P
    simp[af,ah,ad,ae,aa, *,jA,hx.r,V,h6,h7,O,L,A7.av,zM.av,mQ,qR,ju,wT]
    intro i
    refine C5 (l:=b.ses) ?_ ⟨a,d,m⟩ λi1 m1 M z1=>?_
    ·clear i;exact by simp(maxDischargeDepth:=12) [ai.get_put,an,aj,Fr.nil,au,af,ah,ad,ae,ao,ak,aa, *]
    revert i
    simp[af,ah,ad,ae,aa, *,ai.get_put,M]
    intro i
    refine C4 (l:=b.used) ?_ ⟨a,d⟩ λi2 m2 N z2=>?_
    ·clear i;exact by simp(maxDischargeDepth:=12) [ai.get_put,an,aj,Fr.nil,au,af,ah,ad,ae,ao,ak,aa, *]
    revert i
    simp[af,ah,ad,ae,aa, *,ai.get_put,N]
    intro i
    clear O L M N
    refine i _ (.cC ⟨dep+1,43,H.gen (dep+1) 43,0⟩ 0 1 none) ?_ ?_ ?_ (.inr ⟨⟨dep+1,43,H.gen (dep+1) 43,0⟩,rfl,?_⟩) (λr W=>by cases W;rfl) ?_ λq cc Q=>⟨?_,λn1 n2 T=>?_⟩
    ·clear i;exact by simp(maxDischargeDepth:=12) [ai.get_put,an,aj,Fr.nil,au,af,ah,ad,ae,ao,ak,aa, *]
    ·clear i;exact by simp(maxDischargeDepth:=12) [ai.get_put,an,aj,Fr.nil,au,af,ah,ad,ae,ao,ak,aa, *]
    ·clear i;exact by simp(maxDischargeDepth:=12) [ai.get_put,an,aj,Fr.nil,au,af,ah,ad,ae,ao,ak,aa, *]
    ·clear i;exact by simp(maxDischargeDepth:=12) [ai.get_put,an,aj,Fr.nil,au,af,ah,ad,ae,ao,ak,aa, *]
    ·clear i;exact by simp(maxDischargeDepth:=12) [ai.get_put,an,aj,Fr.nil,au,af,ah,ad,ae,ao,ak,aa, *]
    ·clear i
     have R:(H.get q).isSome=true:=by rw[Q];rfl
     simp[AV.at?,af hF R]
    ·clear i
     have R:(H.get q).isSome=true:=by rw[Q];rfl
     simp[af hF R,ai.get_put,n1,n2,T,λe=>n1 (qL e),λe=>n2 (qL e),λe=>T (qL e),Q]
   ·simp only[P,if_false]
    simp[af,ah,ad,ae,aa, *,jA,hx.r,V,h6,h7,O,L,A7.av,zM.av,mQ,qR,ju,wT,P]
    intro i
    refine C5 (l:=b.ses) ?_ ⟨a,d,m⟩ λi1 m1 M z1=>?_
    ·clear i;exact by simp(maxDischargeDepth:=12) [ai.get_put,an,aj,Fr.nil,au,af,ah,ad,ae,ao,ak,aa, *]
    revert i
    simp[af,ah,ad,ae,aa, *,ai.get_put,M]
    intro i
    refine C4 (l:=b.used) ?_ ⟨a,d⟩ λi2 m2 N z2=>?_
    ·clear i;exact by simp(maxDischargeDepth:=12) [ai.get_put,an,aj,Fr.nil,au,af,ah,ad,ae,ao,ak,aa, *]
    revert i
    simp[af,ah,ad,ae,aa, *,ai.get_put,N]
    intro i
    clear O L M N
    refine i _ (.cC ⟨dep+1,43,H.gen (dep+1) 43,0⟩ 0 1 none) ?_ ?_ ?_ (.inr ⟨⟨dep+1,43,H.gen (dep+1) 43,0⟩,rfl,?_⟩) (λr W=>by cases W;rfl) ?_ λq cc Q=>⟨?_,λn1 n2 T=>?_⟩
    ·clear i;exact by simp(maxDischargeDepth:=12) [ai.get_put,an,aj,Fr.nil,au,af,ah,ad,ae,ao,ak,aa, *]
    ·clear i;exact by simp(maxDischargeDepth:=12) [ai.get_put,an,aj,Fr.nil,au,af,ah,ad,ae,ao,ak,aa, *]
    ·clear i;exact by simp(maxDischargeDepth:=12) [ai.get_put,an,aj,Fr.nil,au,af,ah,ad,ae,ao,ak,aa, *]
    ·clear i;exact by simp(maxDischargeDepth:=12) [ai.get_put,an,aj,Fr.nil,au,af,ah,ad,ae,ao,ak,aa, *]
    ·clear i;exact by simp(maxDischargeDepth:=12) [ai.get_put,an,aj,Fr.nil,au,af,ah,ad,ae,ao,ak,aa, *]
    ·clear i
     have R:(H.get q).isSome=true:=by rw[Q];rfl
     simp[AV.at?,af hF R]
    ·clear i
     have R:(H.get q).isSome=true:=by rw[Q];rfl
     simp[af hF R,ai.get_put,n1,n2,T,λe=>n1 (qL e),λe=>n2 (qL e),λe=>T (qL e),Q]
  ·have f4:jW 17 112 nh true none (some ⟨17,eo,true,false⟩) (some [.agg [a8 E,a8 a,aw d,a8 m,aI K,a8 I,aw G,a8 F,aI J,aI j,a8 n,aw A,a8 C,aI p,a8 D,aw B,y]]):=by
    simp;omega
   have e43:=Z r rfl
   clear Z
   obtain⟨rd,rt,rg,rk⟩:=r
   simp only at e43
   subst e43
   have l8:(H.get ⟨rd,43,rg,rk⟩).isSome=true:=by rw[h8];rfl
   have nr1:(⟨rd,43,rg,rk⟩:Ref)≠rb:=λe=>s4 (by rw[e];rfl)
   have nr2:(⟨rd,43,rg,rk⟩:Ref)≠rs:=λe=>s5 (by rw[e];rfl)
   have nr3:(⟨rd,43,rg,rk⟩:Ref)≠ru:=λe=>s6 (by rw[e];rfl)
   have nr1':=nr1.symm
   have nr2':=nr2.symm
   have nr3':=nr3.symm
   clear s4 s5 s6
   by_cases P:E=1
   ·subst P
    simp[af,ah,ad,ae,aa, *,jA,hx.r,V,h6,h7,O,L,A7.av,zM.av,mQ,qR,ju,wT]
    intro i
    refine C5 (l:=b.ses) ?_ ⟨a,d,m⟩ λi1 m1 M z1=>?_
    ·clear i;exact by simp(maxDischargeDepth:=12) [ai.get_put,an,aj,Fr.nil,au,af,ah,ad,ae,ao,ak,aa, *]
    revert i
    simp[af,ah,ad,ae,aa, *,ai.get_put,M]
    intro i
    refine C4 (l:=b.used) ?_ ⟨a,d⟩ λi2 m2 N z2=>?_
    ·clear i;exact by simp(maxDischargeDepth:=12) [ai.get_put,an,aj,Fr.nil,au,af,ah,ad,ae,ao,ak,aa, *]
    revert i
    simp[af,ah,ad,ae,aa, *,ai.get_put,N]
    intro i
    clear O L M N
    refine i _ (.cC ⟨rd,43,H.gen rd 43,0⟩ 0 (nh+1) none) ?_ ?_ ?_ (.inr ⟨⟨rd,43,H.gen rd 43,0⟩,by simp[Y],?_⟩) (λr W=>by cases W;rfl) ?_ λq cc Q=>⟨?_,λn1 n2 T n4=>?_⟩
    ·clear i;exact by simp(maxDischargeDepth:=12) [ai.get_put,an,aj,Fr.nil,au,af,ah,ad,ae,ao,ak,aa, *]
    ·clear i;exact by simp(maxDischargeDepth:=12) [ai.get_put,an,aj,Fr.nil,au,af,ah,ad,ae,ao,ak,aa, *]
    ·clear i;exact by simp(maxDischargeDepth:=12) [ai.get_put,an,aj,Fr.nil,au,af,ah,ad,ae,ao,ak,aa, *]
    ·clear i;exact by simp(maxDischargeDepth:=12) [ai.get_put,an,aj,Fr.nil,au,af,ah,ad,ae,ao,ak,aa, *]
    ·clear i;exact by simp(maxDischargeDepth:=12) [ai.get_put,an,aj,Fr.nil,au,af,ah,ad,ae,ao,ak,aa, *]
    ·clear i
     have R:(H.get q).isSome=true:=by rw[Q];rfl
     simp[AV.at?,af hF R]
    ·clear i
     have R:(H.get q).isSome=true:=by rw[Q];rfl
     simp[af hF R,ai.get_put,n1,n2,T,λe=>n1 (qL e),λe=>n2 (qL e),λe=>T (qL e),Q]
     all_goals (intro e;exact n4 (by first | exact e.symm | (rw[e];rfl)))
   ·simp only[P,if_false]
    simp[af,ah,ad,ae,aa, *,jA,hx.r,V,h6,h7,O,L,A7.av,zM.av,mQ,qR,ju,wT,P]
    intro i
    refine C5 (l:=b.ses) ?_ ⟨a,d,m⟩ λi1 m1 M z1=>?_
    ·clear i;exact by simp(maxDischargeDepth:=12) [ai.get_put,an,aj,Fr.nil,au,af,ah,ad,ae,ao,ak,aa, *]
    revert i
    simp[af,ah,ad,ae,aa, *,ai.get_put,M]
    intro i
    refine C4 (l:=b.used) ?_ ⟨a,d⟩ λi2 m2 N z2=>?_
    ·clear i;exact by simp(maxDischargeDepth:=12) [ai.get_put,an,aj,Fr.nil,au,af,ah,ad,ae,ao,ak,aa, *]
    revert i
    simp[af,ah,ad,ae,aa, *,ai.get_put,N]
    intro i
    clear O L M N
    refine i _ (.cC ⟨rd,43,H.gen rd 43,0⟩ 0 (nh+1) none) ?_ ?_ ?_ (.inr ⟨⟨rd,43,H.gen rd 43,0⟩,by simp[Y],?_⟩) (λr W=>by cases W;rfl) ?_ λq cc Q=>⟨?_,λn1 n2 T n4=>?_⟩
    ·clear i;exact by simp(maxDischargeDepth:=12) [ai.get_put,an,aj,Fr.nil,au,af,ah,ad,ae,ao,ak,aa, *]
    ·clear i;exact by simp(maxDischargeDepth:=12) [ai.get_put,an,aj,Fr.nil,au,af,ah,ad,ae,ao,ak,aa, *]
    ·clear i;exact by simp(maxDischargeDepth:=12) [ai.get_put,an,aj,Fr.nil,au,af,ah,ad,ae,ao,ak,aa, *]
    ·clear i;exact by simp(maxDischargeDepth:=12) [ai.get_put,an,aj,Fr.nil,au,af,ah,ad,ae,ao,ak,aa, *]
    ·clear i;exact by simp(maxDischargeDepth:=12) [ai.get_put,an,aj,Fr.nil,au,af,ah,ad,ae,ao,ak,aa, *]
    ·clear i
     have R:(H.get q).isSome=true:=by rw[Q];rfl
     simp[AV.at?,af hF R]
    ·clear i
     have R:(H.get q).isSome=true:=by rw[Q];rfl
     simp[af hF R,ai.get_put,n1,n2,T,λe=>n1 (qL e),λe=>n2 (qL e),λe=>T (qL e),Q]
     all_goals (intro e;exact n4 (by first | exact e.symm | (rw[e];rfl)))
 obtain⟨z,H',V,rfl,xh',h2,h3⟩:=pv (f:=77) (by kernel_rfl) (by kernel_rfl) (by kernel_rfl) (by kernel_rfl) (by kernel_rfl) hgo
 exact⟨H',xh',V,h2,h3⟩
end
end Go.Proofs.YtdbiffjdomokfaaGreat
namespace Go.Proofs.YtdbiffjdomokfaaGreat
open Go.Ab
attribute [local simp] aU aK aG aW aV cz lT ba aO aQ cg cf bI bc ay bE gw
def W3(f g:FuncId):AV := .agg [.fn (.func f) [] [],.fn (.func g) [] []]
def wY:List AV:=[.tup [a8 1,W3 71 74],.tup [a8 2,W3 75 77],.tup [a8 3,W3 79 81]]
theorem Wf:aF env 43 []=some (.fsl 0 (.v (.bool true) :: wY) none):=Ey (n:=400) (by kernel_rfl)
theorem W4(a:Bool)(dep:Nat)(H:ai)(d t g:Nat):bF env a (aF env) (cE env dep) H ⟨d,t,g,0⟩ (some (.fn (.func 43) [] [])) []=some (.mp ⟨d,t,g,0⟩,(⟨d,t,g,0⟩,some (bn wY)) :: H):=by
 have b:env.mode 43=1:=by kernel_rfl
 have e:([]++[]++[]:List AV)=[]:=rfl
 have c:(pure []:Option (List AV))=some []:=rfl
 simp only[bF,kn,b,e,FA,c,Wf]
 cases a<;>rfl
theorem Gd:HL env.P 102=some (5,108):=by kernel_rfl
theorem ZY{g:db}{r:Ref}(h:g r=some (bn wY)):eT env.P g 102 (some (.mp r)) (some (a8 1)) false=some (W3 71 74,[]):=by
 have a:jO g r=some wY:=by unfold jO;rw[h];rfl
 have b:gI (a8 1)=some (.int .u8 1):=by kernel_rfl
 simp only[eT,Gd,fy,b,a]
 show _=_
 kernel_rfl
theorem ZX{g:db}{r:Ref}(h:g r=some (bn wY)):eT env.P g 102 (some (.mp r)) (some (a8 2)) false=some (W3 75 77,[]):=by
 have a:jO g r=some wY:=by unfold jO;rw[h];rfl
 have b:gI (a8 2)=some (.int .u8 2):=by kernel_rfl
 simp only[eT,Gd,fy,b,a]
 show _=_
 kernel_rfl
theorem ZW{g:db}{r:Ref}(h:g r=some (bn wY)):eT env.P g 102 (some (.mp r)) (some (a8 3)) false=some (W3 79 81,[]):=by
 have a:jO g r=some wY:=by unfold jO;rw[h];rfl
 have b:gI (a8 3)=some (.int .u8 3):=by kernel_rfl
 simp only[eT,Gd,fy,b,a]
 show _=_
 kernel_rfl
end Go.Proofs.YtdbiffjdomokfaaGreat
namespace Go.Proofs.YtdbiffjdomokfaaGreat
open Go.Ab
attribute [local simp] aU aK aG aW aV cz lT ba aO aQ cg cf bI bc ay bE gw
theorem Own.grow{z:Nat}{es:List AV}{H H':ai}{x:AV}(h:Own z es H x)(g:cF H H'):Own z es H' x:=by
 rcases h with h | ⟨r,rfl,a⟩
 ·exact .inl h
 ·exact .inr ⟨r,rfl,g.old _ _ a⟩
theorem lj.grow{H H':ai}{rb rs ru:Ref}{xh xr:AV}{us0:List Clear}{qs:List aC}{gr0:Int}{b:ji}(h:lj H rb rs ru xh xr us0 qs gr0 b)(g:cF H H'):lj H' rb rs ru xh xr us0 qs gr0 b:=by
 obtain⟨f,e,o,i,k,m,d,a,n,c,j⟩:=h.box
 exact⟨⟨f,e,o,i,k,m,g.old _ _ d,a,n,c.grow g,j.grow g⟩,g.old _ _ h.ses,g.old _ _ h.use,Own.grow h.fc g,h.one,h.sep,h.t43⟩
structure Qs (H0 H:ai) (rb rs ru rk:Ref) (xh xr:AV) (us0:List Clear) (qs:List aC) (gr0:Int) (b:ji) (recs:List (cB × AV)):Prop where
 g:cF H0 H
 bk:lj H rb rs ru xh xr us0 qs gr0 b
 row:Own 24 (bh recs) H xr
 t62 : ∀r,xr.at?=some r->r.t=62/\H0.get r=none
 new : ∀r,xh.at?=some r->H0.get r=none
 kd:H.get rk=some (bn wY)
 tt:rb.t=24/\rs.t=21/\ru.t=22/\rk.t=25
 nn:H0.get rb=none/\H0.get rs=none/\H0.get ru=none
section
variable{H0 H H':ai}{rb rs ru rk:Ref}{xh xr:AV}{us0:List Clear}{qs:List aC}{gr0:Int}{b:ji}{recs:List (cB × AV)}(h:Qs H0 H rb rs ru rk xh xr us0 qs gr0 b recs)
include h
theorem Qs.grow(g:cF H H'):Qs H0 H' rb rs ru rk xh xr us0 qs gr0 b recs:=
 ⟨h.g.trans g,h.bk.grow g,Own.grow h.row g,h.t62,h.new,g.old _ _ h.kd,h.tt,h.nn⟩
theorem Qs.ne{q:Ref}{c:bA}(a:H0.get q=some c):q≠rb/\q≠rs/\q≠ru/\xh.at?≠some q/\xr.at?≠some q:=by
 obtain⟨n1,n2,n3⟩:=h.nn
 refine⟨?_,?_,?_,?_,?_⟩
 ·rintro rfl;rw[n1]at a;cases a
 ·rintro rfl;rw[n2]at a;cases a
 ·rintro rfl;rw[n3]at a;cases a
 ·intro e;have:=h.new q e;rw[a]at this;cases this
 ·intro e;have:=(h.t62 q e).2;rw[a]at this;cases this
theorem Qs.did{xh':AV}{b':ji}(m:lj H' rb rs ru xh' xr us0 qs gr0 b')(i:Qt H H' rb rs ru xh xh'):Qs H0 H' rb rs ru rk xh' xr us0 qs gr0 b' recs:=by
 obtain⟨t1,t2,t3,t4⟩:=h.tt
 have f : ∀q c,H0.get q=some c->H'.get q=some c/\xh'.at?≠some q:=by
  intro q c a
  obtain⟨o,k,u,n,_⟩:=h.ne a
  exact i.old q c (h.g.old q c a) o k u n
 have d : ∀(q:Ref),q.t≠43->xh.at?≠some q:=λq a e=>a (h.bk.t43 q e)
 refine⟨⟨i.fr,λq c a=>(f q c a).1⟩,m,?_,h.t62,?_,?_,h.tt,h.nn⟩
 ·rcases h.row with p | ⟨r,rfl,j⟩
  ·exact .inl p
  ·have v:=(h.t62 r rfl).1
   exact .inr ⟨r,rfl,(i.old r _ j (by rintro rfl;omega) (by rintro rfl;omega) (by rintro rfl;omega) (d r (by omega))).1⟩
 ·intro r e
  cases j:H0.get r with
  | none=>rfl
  | some c=>exact absurd e (f r c j).2
 ·exact(i.old rk _ h.kd (by rintro rfl;omega) (by rintro rfl;omega) (by rintro rfl;omega) (d rk (by omega))).1
theorem Qs.put{d:AV}{a:List (cB × AV)}(D:Fr H')(p:Own 24 (bh a) H' d)(E : ∀r,d.at?=some r->r.t=62)
 (v : ∀n m u o,H.get rb=some ⟨10,[.agg [n,m,aI gr0,u,o,aI b.gr,xr,.mp rs,.mp ru,xh]],false,false⟩->H'.get rb=some ⟨10,[.agg [n,m,aI gr0,u,o,aI b.gr,d,.mp rs,.mp ru,xh]],false,false⟩)
 (j : ∀q c,H.get q=some c->d.at?≠some q/\(q≠rb->xr.at?≠some q->H'.get q=some c)):Qs H0 H' rb rs ru rk xh d us0 qs gr0 b a:=by
 obtain⟨t1,t2,t3,t4⟩:=h.tt
 have i : ∀(q:Ref),q.t≠62->xr.at?≠some q:=λq f e=>f (h.t62 q e).1
 obtain⟨n,m,u,o,G,I,x,A,J,B,F⟩:=h.bk.box
 have w : ∀q c,H.get q=some c->c.k8=true->H'.get q=some c:=by
  intro q c f y
  refine(j q c f).2 ?_ ?_
  ·rintro rfl;rw[x]at f;cases f;exact absurd y (by simp)
  ·intro e
   rcases h.row with ⟨rfl,_⟩ | ⟨r,rfl,k⟩
   ·cases e
   ·simp only[AV.at?,dR]at e;subst e;rw[k]at f;cases f;exact absurd y (by simp)
 refine⟨⟨D,λq c f=>?_⟩,⟨⟨n,m,u,o,G,I,v _ _ _ _ x,A,J,B.cz w,F.cz w⟩,?_,?_,?_,?_,h.bk.sep,h.bk.t43⟩,p,λr e=>⟨E r e,?_⟩,h.new,?_,h.tt,h.nn⟩
 ·obtain⟨n1,n2,n3,K,C⟩:=h.ne f
  exact(j q c (h.g.old q c f)).2 n1 C
 ·exact(j _ _ h.bk.ses).2 (by rintro rfl;omega) (i _ (by omega))
 ·exact(j _ _ h.bk.use).2 (by rintro rfl;omega) (i _ (by omega))
 ·rcases h.bk.fc with p | ⟨r,rfl,k⟩
  ·exact .inl p
  ·have:=h.bk.t43 r rfl
   exact .inr ⟨r,rfl,(j _ _ k).2 (by rintro rfl;omega) (i _ (by omega))⟩
 ·obtain⟨_,z⟩:=sJ p;exact z.cells
 ·cases k:H0.get r with
  | none=>rfl
  | some c=>exact absurd e (j r c (h.g.old r c k)).1
 ·exact(j _ _ h.kd).2 (by rintro rfl;omega) (i _ (by omega))
end
theorem It{f:FuncId}(c:(env.mode f == 2)=true){dep:Nat}{H H':ai}{r:Ref}{first args captured:List AV}{y:AV}{K:AV->ai->Prop}{m:Mk K}
 (h:cE env dep (.fn f) (first++args++captured) H=some (y,H')) (a:K y H') :
 lQ (bF env true (aF env) (cE env dep) H r (some (.fn (.func f) first captured)) args) K m:=by
 refine tI (v:=y) (H:=H') ?_ a
 rw[Ea c]
 exact h
theorem Tc(k:UInt8)(u:Int)(z:UInt8)(q:UInt8)(C:UInt32)(B:UInt8)(t:Int)(n:UInt8)(A:UInt32)(D:UInt8)(m:Int)(i:Int)(f:UInt8)(d:UInt32)(g:UInt8)(a:Int)(j:UInt8)(e:UInt32)(c F:Int)(v:UInt8)(w:UInt32)(o:Bool){x:AV}{E:List Int}(hx:Sl 1 (rows E) x)(G:E.length<1000000) :
 ∃y,y=uQ x/\Sl 1 (rows E) y/\aF env 45 [.agg [a8 k,aI u,a8 z,a8 q,aw C,a8 B,aI t,a8 n,aw A,a8 D,aI m,aI i,a8 f,aw d,a8 g,aI a,a8 j,aw e,x,aI c,aI F,a8 v,aw w,aB o]]=some (.agg [a8 k,aI u,a8 z,a8 q,aw C,a8 B,aI t,a8 n,aw A,a8 D,aI m,aI i,a8 f,aw d,a8 g,aI a,a8 j,aw e,y,aI c,aI F,a8 v,aw w,aB o]):=Wk (p:=(⟨k,u,(⟨z,⟨q,C,B⟩,t,⟨⟨⟨n,A,D⟩,m⟩,i⟩,⟨⟨f,d,g⟩,a⟩,⟨j,e⟩,E⟩:aN),c,F,v,w,o⟩,x)) ⟨hx,G⟩
theorem Er(k:UInt8)(u:Int)(y:UInt8)(q:UInt8)(B:UInt32)(A:UInt8)(t:Int)(n:UInt8)(z:UInt32)(C:UInt8)(m:Int)(i:Int)(f:UInt8)(d:UInt32)(g:UInt8)(a:Int)(j:UInt8)(e:UInt32)(c E:Int)(v:UInt8)(w:UInt32)(o:Bool){x:AV}{D:List Int}(hx:Sl 1 (rows D) x)(F:D.length<1000000) :
 aF env 44 [.agg [a8 k,aI u,a8 y,a8 q,aw B,a8 A,aI t,a8 n,aw z,a8 C,aI m,aI i,a8 f,aw d,a8 g,aI a,a8 j,aw e,x,aI c,aI E,a8 v,aw w,aB o]]=some (aI (if dC ⟨k,u,(⟨y,⟨q,B,A⟩,t,⟨⟨⟨n,z,C⟩,m⟩,i⟩,⟨⟨f,d,g⟩,a⟩,⟨j,e⟩,D⟩:aN),c,E,v,w,o⟩ then 0 else 8)):=Oa (p:=(⟨k,u,(⟨y,⟨q,B,A⟩,t,⟨⟨⟨n,z,C⟩,m⟩,i⟩,⟨⟨f,d,g⟩,a⟩,⟨j,e⟩,D⟩:aN),c,E,v,w,o⟩,x)) ⟨hx,F⟩
section
variable{l:List (cB × AV)}{x26:AV}(hx:Sl 24 (bh l) x26)(hl:l.length<10000){H0:ai}{Q:AV->ai->Prop}{dep:Nat}{rb rs ru rk:Ref}{us0:List Clear}{qs:List aC}{gr0:Int}
include hx hl
theorem Kd{i:Nat}(hi:i<l.length){H:ai}{xh xr:AV}{b b':ji}{recs:List (cB × AV)}(W:Qs H0 H rb rs ru rk xh xr us0 qs gr0 b recs)(hrl:recs.length<=10000){fi fd:FuncId}(hm1:(env.mode fi == 2)=true)(hm2:(env.mode fd == 2)=true)
 (k:UInt8) (u:Int) (G:UInt8) (A:UInt8) (E:UInt32) (D:UInt8) (J:Int) (F:UInt8) (C:UInt32) (B:UInt8) (I:Int) (n:Int) (a:UInt8) (f:UInt32) (m:UInt8) (d:Int) (p:UInt8) (j:UInt32) (c U:Int) (v:UInt8) (w:UInt32) (o:Bool) {x:AV} {al:List Int} (N:Sl 1 (rows al) x) (hal:al.length<1000000) (hrd:bW (bh l) i 0 24 true=some (.agg [a8 k,aI u,a8 G,a8 A,aw E,a8 D,aI J,a8 F,aw C,a8 B,aI I,aI n,a8 a,aw f,a8 m,aI d,a8 p,aw j,x,aI c,aI U,a8 v,aw w,aB o]))
 (R : ∀g:db,g rk=some (bn wY)->eT env.P g 102 (some (.mp rk)) (some (a8 k)) false=some (W3 fi fd,[])) (his:dC ⟨k,u,(⟨G,⟨A,E,D⟩,J,⟨⟨⟨F,C,B⟩,I⟩,n⟩,⟨⟨a,f,m⟩,d⟩,⟨p,j⟩,al⟩:aN),c,U,v,w,o⟩=true) {ft:Bool}
 (Y : ∀H',Qs H0 H' rb rs ru rk xh xr us0 qs gr0 b recs ->∃M,cE env (dep+1) (.fn fi) [.ptr rb 0 0,.agg [a8 k,aI u,a8 G,a8 A,aw E,a8 D,aI J,a8 F,aw C,a8 B,aI I,aI n,a8 a,aw f,a8 m,aI d,a8 p,aw j,x,aI c,aI U,a8 v,aw w,aB o]] H'=some (aB ft,M)/\cF H' M)
 (hdo:ft=true ->∀H',Qs H0 H' rb rs ru rk xh xr us0 qs gr0 b recs ->∃M xh',cE env (dep+1) (.fn fd) [.ptr rb 0 0,.agg [a8 k,aI u,a8 G,a8 A,aw E,a8 D,aI J,a8 F,aw C,a8 B,aI I,aI n,a8 a,aw f,a8 m,aI d,a8 p,aw j,x,aI c,aI U,a8 v,aw w,aB o]] H'=some (.v (.tuple #[]),M)/\lj M rb rs ru xh' xr us0 qs gr0 b'/\Qt H' M rb rs ru xh xh')
 (hno:ft=false ->∀H',cF H0 H'->Q (.tup [.v (.pointer none),.v (.bool false)]) H')
 (O:ft=true ->∀H' xh' z,Qs H0 H' rb rs ru rk xh' z us0 qs gr0 b' (recs++[(⟨k,u,(⟨G,⟨A,E,D⟩,J,⟨⟨⟨F,C,B⟩,I⟩,n⟩,⟨⟨a,f,m⟩,d⟩,⟨p,j⟩,al⟩:aN),c,U,v,w,o⟩,uQ x)])->bB env Tryz.f35 (dep+1) kB [(28,aI ((i:Int)+1)),(6,.ptr rb 0 0),(7,.mp rk),(26,x26),(27,aI l.length)] H' Q) :
 bB env Tryz.f35 (dep+1) kB [(28,aI i),(6,.ptr rb 0 0),(7,.mp rk),(26,x26),(27,aI l.length)] H Q:=by
 have hF:=W.g.fr
 have e3:=IntWalk.i64_in ((i:Int)+1) (by omega)
 have hlt':(i:Int)<l.length:=by omega
 have hC:=Er k u G A E D J F C B I n a f m d p j c U v w o N hal
 rw[his]at hC
 have hg1 : ∀b1:bA,cF H ((⟨dep+1,9,H.gen (dep+1) 9,0⟩,some b1) :: H):=λb1=>cF.cons hF _ _ _
 have hI1:=λb1=>W.grow (hg1 b1)
 have hkd:=W.kd
 have lk:(H.get rk).isSome=true:=by rw[hkd];rfl
 refine uH _ _ _ _ _ _ _ _ λg=>?_
 simp[af,ah,ad,ae,aa, *,rG,hx.r,hx.idx,N.r,W3]
 refine nj hm1 (Y _ (hI1 _)) λH4 hG=>?_
 have S:=(hI1 _).grow hG
 have hb9:=hG.old ⟨dep+1,9,H.gen (dep+1) 9,0⟩ _ (by simp;rfl)
 have X:=S.kd
 cases ft with
 | false=>
  have hfin:=hno rfl _ S.g
  simp
  exact hfin
 | true=>
  have hl4:=R _ X
  obtain⟨L,xh',e1,e2,e4⟩:=hdo rfl H4 S
  have T:=S.did e2 e4
  have b9:=(e4.old _ _ hb9 (λe=>absurd (congrArg Ref.t e) (by rw[W.tt.1];simp)) (λe=>absurd (congrArg Ref.t e) (by rw[W.tt.2.1];simp)) (λe=>absurd (congrArg Ref.t e) (by rw[W.tt.2.2.1];simp)) (λe=>absurd (W.bk.t43 _ e) (by simp))).1
  obtain⟨xu,xq,yu,yq,wu,wq,f1,f2,f3,f4,f5⟩:=e2.box
  have c4:=f4.s.cells
  have c5:=f5.s.cells
  have c8:xh'.cells=[xh']/\xh'.one=true:=by obtain⟨_,hs⟩:=sJ e2.fc;exact hs.cells
  have V:=e4.fr
  have l5:(L.get rb).isSome=true:=by rw[f1];rfl
  have l9:(L.get ⟨dep+1,9,H.gen (dep+1) 9,0⟩).isSome=true:=by rw[b9];rfl
  obtain⟨y,hty,hy,hT⟩:=Tc k u G A E D J F C B I n a f m d p j c U v w o N hal
  rw[<-hty]at O
  have hbx : ∀(z:AV)(H':ai),H'.get rb=some ⟨10,[.agg [xu,xq,aI gr0,yu,yq,aI b'.gr,z,.mp rs,.mp ru,xh']],false,false⟩ ->∀xu xq yu yq,L.get rb=some ⟨10,[.agg [xu,xq,aI gr0,yu,yq,aI b'.gr,xr,.mp rs,.mp ru,xh']],false,false⟩->H'.get rb=some ⟨10,[.agg [xu,xq,aI gr0,yu,yq,aI b'.gr,z,.mp rs,.mp ru,xh']],false,false⟩:=by
   intro z H' h xu' xq' yu' yq' h'
   rw[f1]at h'
   simp only[dR,bA.mk.injEq,zt,AV.agg.injEq,and_true,true_and]at h'
   obtain⟨rfl,rfl,rfl,rfl⟩:=h'
   exact h
  have hro:=T.row
  have Z:=λr e=>(T.t62 r e).1
  have c9:=e2.one
  have hel:(bh recs).length=recs.length:=cP recs
  have K : ∀(H':ai)(z:AV),Fr H'->Own 24 (bh recs++[.agg [a8 k,aI u,a8 G,a8 A,aw E,a8 D,aI J,a8 F,aw C,a8 B,aI I,aI n,a8 a,aw f,a8 m,aI d,a8 p,aw j,y,aI c,aI U,a8 v,aw w,aB o]]) H' z->(∀r,z.at?=some r->r.t=62) ->
   H'.get rb=some ⟨10,[.agg [xu,xq,aI gr0,yu,yq,aI b'.gr,z,.mp rs,.mp ru,xh']],false,false⟩->(∀q c,L.get q=some c->z.at?≠some q/\(q≠rb->xr.at?≠some q->H'.get q=some c)) ->
   bB env Tryz.f35 (dep+1) kB [(28,aI ((i:Int)+1)),(6,.ptr rb 0 0),(7,.mp rk),(26,x26),(27,aI l.length)] H' Q:=
   λH' z a1 a2 a3 a5 a6=>O rfl _ _ _ (T.put a1 (by rw[bh,Fj];exact a2) a3 (hbx _ _ a5) a6)
  clear O hbx hno Y hdo R W hI1 S T e2 e4 f4 f5 hC his hg1 hkd X hrd hty
  generalize bh recs=eo at *
  generalize recs.length=nh at *
  simp[hb9,hl4,W3]
  refine It hm2 e1 ?_
  clear e1 hl4 hb9 hG
  revert K
  rcases hro with ⟨rfl,rfl⟩ | ⟨r,rfl,h8⟩
  ·clear hel hrl nh Z
   simp[af,ah,ad,ae,aa, *,b9,f1,hT,N.r,hy.r]
   intro K
   refine K _ (.cC ⟨dep+1,62,L.gen (dep+1) 62,0⟩ 0 1 none) ?_ (.inr ⟨⟨dep+1,62,L.gen (dep+1) 62,0⟩,rfl,?_⟩) (λr hr=>by cases hr;rfl) ?_ λq cc hq=>⟨?_,λn1=>?_⟩
   ·clear K;exact by simp(maxDischargeDepth:=12) [ai.get_put,an,aj,Fr.nil,au,af,ah,ad,ae,ao,ak,aa, *]
   ·clear K;exact by simp(maxDischargeDepth:=12) [ai.get_put,an,aj,Fr.nil,au,af,ah,ad,ae,ao,ak,aa, *]
   ·clear K;exact by simp(maxDischargeDepth:=12) [ai.get_put,an,aj,Fr.nil,au,af,ah,ad,ae,ao,ak,aa, *]
   ·clear K
    have lq:(L.get q).isSome=true:=by rw[hq];rfl
    simp[AV.at?,af V lq]
   ·clear K
    have lq:(L.get q).isSome=true:=by rw[hq];rfl
    simp[af V lq,ai.get_put,n1,λe=>n1 (qL e),hq]
  ·have e62:=Z r rfl
   clear Z
   obtain⟨rd,rt,rg,rk'⟩:=r
   simp only at e62
   subst e62
   have f6:jW 24 160 nh true none (some ⟨24,eo,true,false⟩) (some [.agg [a8 k,aI u,a8 G,a8 A,aw E,a8 D,aI J,a8 F,aw C,a8 B,aI I,aI n,a8 a,aw f,a8 m,aI d,a8 p,aw j,y,aI c,aI U,a8 v,aw w,aB o]]):=by
    simp;omega
   have l8:(L.get ⟨rd,62,rg,rk'⟩).isSome=true:=by rw[h8];rfl
   have nr1:(⟨rd,62,rg,rk'⟩:Ref)≠rb:=by
    intro e;rw[e,f1]at h8;simp at h8
   have nr1':=nr1.symm
   simp[af,ah,ad,ae,aa, *,b9,f1,hT,N.r,hy.r]
   intro K
   refine K _ (.cC ⟨rd,62,L.gen rd 62,0⟩ 0 (nh+1) none) ?_ (.inr ⟨⟨rd,62,L.gen rd 62,0⟩,by simp[hel],?_⟩) (λr hr=>by cases hr;rfl) ?_ λq cc hq=>⟨?_,λn1 n4=>?_⟩
   ·clear K;exact by simp(maxDischargeDepth:=12) [ai.get_put,an,aj,Fr.nil,au,af,ah,ad,ae,ao,ak,aa, *]
   ·clear K;exact by simp(maxDischargeDepth:=12) [ai.get_put,an,aj,Fr.nil,au,af,ah,ad,ae,ao,ak,aa, *]
   ·clear K;exact by simp(maxDischargeDepth:=12) [ai.get_put,an,aj,Fr.nil,au,af,ah,ad,ae,ao,ak,aa, *]
   ·clear K
    have lq:(L.get q).isSome=true:=by rw[hq];rfl
    simp[AV.at?,af V lq]
   ·clear K
    have lq:(L.get q).isSome=true:=by rw[hq];rfl
    simp[af V lq,ai.get_put,n1,λe=>n1 (qL e),hq]
    all_goals (intro e;exact n4 (by first | exact e.symm | (rw[e];rfl)))
end
end Go.Proofs.YtdbiffjdomokfaaGreat
namespace Go.Proofs.YtdbiffjdomokfaaGreat
open Go.Ab
attribute [local simp] aU aK aG aW aV cz lT ba aO aQ cg cf bI bc ay bE gw
def wo(us0:List Clear)(qs:List aC)(gr0:Int)(b:ji)(r:cB):Bool:=if r.kind=1 then ED us0 qs gr0 b r else if r.kind=2 then C0 us0 qs gr0 b r else EC qs b r
def O6(b:ji)(p:cB × AV):ji:=if p.1.kind=1 then BU b p.1.op p.1.user else if p.1.kind=2 then vG b p.1.op p.1.code (uQ p.2) else C6 b p.1.gu p.1.gv p.1.gc p.1.gok
def Ya(us0:List Clear)(qs:List aC)(gr0:Int):ji->List (cB × AV)->Option ji
 | b,[]=>some b
 | b,p :: l=>if dC p.1=true/\wo us0 qs gr0 b p.1=true then Ya us0 qs gr0 (O6 b p) l else none
theorem E4{l:List Int}{x:AV}(hx:Sl 1 (rows l) x):Sl 1 (rows l) (uQ x):=by
 rcases hx with ⟨rfl,h⟩ | ⟨c,rfl,h⟩
 ·exact .inl ⟨rfl,h⟩
 ·by_cases a:rows l=[]
  ·rw[a];exact .inr ⟨some 0,rfl,by simp⟩
  ·rw[Lb 1 c a];exact Sl.mk _ _
def BL(p:cB × AV):cB × AV:=(p.1,uQ p.2)
theorem MT(b:ji)(p:cB × AV):(O6 b p).fc.length<=b.fc.length+1:=by
 unfold O6 BU vG C6
 repeat' split
 all_goals simp
theorem aaF{b:ji}(h:zm b){p:cB × AV}(hp:Ba p)(f:b.fc.length+1<10000):zm (O6 b p):=by
 have e:=MT b p
 unfold O6 at e ⊢
 split at e
 ·rename_i c
  rw[if_pos c]
  refine⟨Ct (P:=λx =>∃s:A7,x=s.av) ⟨_,rfl⟩ h.ses,Ct (P:=λx =>∃s:zM,x=s.av) ⟨_,rfl⟩ h.used,h.fc,by omega,h.few⟩
 ·rename_i c
  rw[if_neg c]
  split at e
  ·rename_i d
   rw[if_pos d]
   refine⟨Ct (P:=λx =>∃s:A7,x=s.av) ⟨_,rfl⟩ h.ses,Ct (P:=λx =>∃s:zM,x=s.av) ⟨_,rfl⟩ h.used,?_,by omega,h.few⟩
   intro q a
   unfold vG at a
   simp only at a
   split at a
   ·rcases nM.1 a with a | a
    ·exact h.fc q a
    ·rw[uC]at a
     subst a
     exact⟨⟨E4 hp.1,by have:=hp.2;simp only;omega⟩,hp.2⟩
   ·exact h.fc q a
  ·rename_i d
   rw[if_neg d]
   exact⟨h.ses,h.used,h.fc,by omega,by show(b.us.set _ _).length<_;rw[Js];exact h.few⟩
def Hr(H0:ai)(us0:List Clear)(qs:List aC)(gr0:Int)(recs:List (cB × AV))(o:Option ji)(y:AV)(H:ai):Prop:=match o with
 | none=>y = .tup [.v (.pointer none),aB false]/\cF H0 H
 | some b =>∃rb rs ru rk c a,y = .tup [.ptr rb 0 0,aB true]/\Qs H0 H rb rs ru rk c a us0 qs gr0 b recs/\zm b
section
variable{l:List (cB × AV)}{x26:AV}(hx:Sl 24 (bh l) x26)(hl:l.length<=2048)(hall : ∀p∈l,Ba p){H0:ai}{Q:AV->ai->Prop}{dep:Nat}{rb rs ru rk:Ref}{us0:List Clear}{qs:List aC}{gr0:Int}(hul:us0.length<1000000)(hql:qs.length<1000000)
include hx hl hall hul hql
theorem WT : ∀(s:List (cB × AV)) (k:Nat) (b:ji) (recs:List (cB × AV)) (H:ai) (X xr:AV),l.drop k=s->k<=l.length->recs=(l.take k).map BL->zm b->b.fc.length<=k->Qs H0 H rb rs ru rk X xr us0 qs gr0 b recs ->
 (∀y H',Hr H0 us0 qs gr0 (l.map BL) (Ya us0 qs gr0 b s) y H'->Q y H') ->
 bB env Tryz.f35 (dep+1) kB [(28,aI k),(6,.ptr rb 0 0),(7,.mp rk),(26,x26),(27,aI l.length)] H Q:=by
 intro s
 induction s with
 | nil=>
  rintro k b recs H X xr hs hk hr hok hm hI hQ
  obtain rfl:=drop_nil hs hk
  rw[FF]at hr
  subst hr
  have O:=hQ _ H ⟨rb,rs,ru,rk,X,xr,rfl,hI,hok⟩
  refine uH _ _ _ _ _ _ _ _ λg=>?_
  clear hQ hI hall
  simp[af,ah,ad,ae,aa, *,rG]
  all_goals exact O
 | cons p s ih=>
  rintro k b recs H X xr hs hk hr hok hm hI hQ
  obtain⟨T,hg,hs',hg'⟩:=drop_cons hs
  have hp:=hall p (hg ▸ lM T)
  have hok':=aaF hok hp (by omega)
  have hm':=MT b p
  have Z:recs.length<=10000:=by rw[hr];simp;omega
  have hr':recs++[BL p]=(l.take (k+1)).map BL:=by
   rw[hr,Ju,hg']
   simp
  have S:=λ(hd:dC p.1=true/\wo us0 qs gr0 b p.1=true) H' xh' M h=>ih (k+1) (O6 b p) _ H' xh' M hs' (by omega) hr' hok' (by omega) h (λy H1 hA=>hQ y H1 (by show Hr _ _ _ _ _ (if _ then _ else _) _ _;rw[if_pos hd];exact hA))
  have N : ¬(dC p.1=true/\wo us0 qs gr0 b p.1=true) ->∀H',cF H0 H'->Q (.tup [.v (.pointer none),aB false]) H':=λhd H' W=>hQ _ H' (by show Hr _ _ _ _ _ (if _ then _ else _) _ _;rw[if_neg hd];exact⟨rfl,W⟩)
  obtain⟨⟨k1,u,⟨t,⟨q,E,D⟩,B,⟨⟨⟨n,C,z⟩,A⟩,j⟩,⟨⟨f,d,i⟩,a⟩,⟨m,e⟩,K⟩,c,I,v,w,o⟩,x⟩:=p
  obtain⟨G,L⟩:=hp
  simp only at G L
  have Y:bW (bh l) k 0 24 true=some (.agg [a8 k1,aI u,a8 t,a8 q,aw E,a8 D,aI B,a8 n,aw C,a8 z,aI A,aI j,a8 f,aw d,a8 i,aI a,a8 m,aw e,x,aI c,aI I,a8 v,aw w,aB o]):=by simp[bh,hg',cB.val]
  have hlt':(k:Int)<l.length:=by omega
  cases J:dC ⟨k1,u,(⟨t,⟨q,E,D⟩,B,⟨⟨⟨n,C,z⟩,A⟩,j⟩,⟨⟨f,d,i⟩,a⟩,⟨m,e⟩,K⟩:aN),c,I,v,w,o⟩ with
  | false=>
   have hF:=hI.g.fr
   have hC:=Er k1 u t q E D B n C z A j f d i a m e c I v w o G L
   rw[J]at hC
   have O:=λb1=>N (by rw[J];simp) _ ((hI.grow (cF.cons hF (dep+1) 9 b1)).g)
   refine uH _ _ _ _ _ _ _ _ λg=>?_
   clear N S ih hQ hI hall J
   simp[af,ah,ad,ae,aa, *,rG,hx.r,hx.idx,G.r]
   all_goals exact O _
  | true=>
   by_cases U:k1=1
   ·subst U
    have V:wo us0 qs gr0 b ⟨1,u,(⟨t,⟨q,E,D⟩,B,⟨⟨⟨n,C,z⟩,A⟩,j⟩,⟨⟨f,d,i⟩,a⟩,⟨m,e⟩,K⟩:aN),c,I,v,w,o⟩=ED us0 qs gr0 b ⟨1,u,(⟨t,⟨q,E,D⟩,B,⟨⟨⟨n,C,z⟩,A⟩,j⟩,⟨⟨f,d,i⟩,a⟩,⟨m,e⟩,K⟩:aN),c,I,v,w,o⟩:=rfl
    refine Kd hx (by omega) T hI Z (fi:=71) (fd:=74) (b':=O6 b (⟨1,u,(⟨t,⟨q,E,D⟩,B,⟨⟨⟨n,C,z⟩,A⟩,j⟩,⟨⟨f,d,i⟩,a⟩,⟨m,e⟩,K⟩:aN),c,I,v,w,o⟩,x)) (by kernel_rfl) (by kernel_rfl) 1 u t q E D B n C z A j f d i a m e c I v w o G L Y (λg=>ZY) J (ft:=ED us0 qs gr0 b ⟨1,u,(⟨t,⟨q,E,D⟩,B,⟨⟨⟨n,C,z⟩,A⟩,j⟩,⟨⟨f,d,i⟩,a⟩,⟨m,e⟩,K⟩:aN),c,I,v,w,o⟩)
     (λH' F=>Z9 (dep+1) F.g.fr F.bk.at hok hul hql 1 u t q E D B n C z A j f d i a m e c I v w o G) ?_ ?_ ?_
    ·intro _ H' F
     obtain⟨H2,U,R,P⟩:=Z8 (dep+1) F.g.fr F.bk hok 1 u t q E D B n C z A j f d i a m e c I v w o G
     exact⟨H2,X,U,R,P⟩
    ·intro h H' W
     exact N (by rw[V,h];simp) H' W
    ·intro h H' xh' M h'
     exact S ⟨J,by rw[V];exact h⟩ H' xh' M h'
   ·by_cases R:k1=2
    ·subst R
     have V:wo us0 qs gr0 b ⟨2,u,(⟨t,⟨q,E,D⟩,B,⟨⟨⟨n,C,z⟩,A⟩,j⟩,⟨⟨f,d,i⟩,a⟩,⟨m,e⟩,K⟩:aN),c,I,v,w,o⟩=C0 us0 qs gr0 b ⟨2,u,(⟨t,⟨q,E,D⟩,B,⟨⟨⟨n,C,z⟩,A⟩,j⟩,⟨⟨f,d,i⟩,a⟩,⟨m,e⟩,K⟩:aN),c,I,v,w,o⟩:=rfl
     refine Kd hx (by omega) T hI Z (fi:=75) (fd:=77) (b':=O6 b (⟨2,u,(⟨t,⟨q,E,D⟩,B,⟨⟨⟨n,C,z⟩,A⟩,j⟩,⟨⟨f,d,i⟩,a⟩,⟨m,e⟩,K⟩:aN),c,I,v,w,o⟩,x)) (by kernel_rfl) (by kernel_rfl) 2 u t q E D B n C z A j f d i a m e c I v w o G L Y (λg=>ZX) J (ft:=C0 us0 qs gr0 b ⟨2,u,(⟨t,⟨q,E,D⟩,B,⟨⟨⟨n,C,z⟩,A⟩,j⟩,⟨⟨f,d,i⟩,a⟩,⟨m,e⟩,K⟩:aN),c,I,v,w,o⟩)
      (λH' F=>Z7 (dep+1) F.g.fr F.bk.at hok hul hql 2 u t q E D B n C z A j f d i a m e c I v w o G L) ?_ ?_ ?_
     ·intro _ H' F
      by_cases hc:c=0
      ·subst hc
       exact W5 (dep+1) F.g.fr F.bk hok 2 u t q E D B n C z A j f d i a m e I v w o G L
      ·obtain⟨H2,U,R,P⟩:=Z6 (dep+1) F.g.fr F.bk hok 2 u t q E D B n C z A j f d i a m e c I v w o G hc
       have hd:vG b (⟨t,⟨q,E,D⟩,B,⟨⟨⟨n,C,z⟩,A⟩,j⟩,⟨⟨f,d,i⟩,a⟩,⟨m,e⟩,K⟩:aN) c bZ=O6 b (⟨2,u,(⟨t,⟨q,E,D⟩,B,⟨⟨⟨n,C,z⟩,A⟩,j⟩,⟨⟨f,d,i⟩,a⟩,⟨m,e⟩,K⟩:aN),c,I,v,w,o⟩,x):=by simp[O6,vG,hc,Hb]
       rw[hd]at R
       exact⟨H2,X,U,R,P⟩
     ·intro h H' W
      exact N (by rw[V,h];simp) H' W
     ·intro h H' xh' M h'
      exact S ⟨J,by rw[V];exact h⟩ H' xh' M h'
    ·have P:k1=3:=by
      by_cases P:k1=3
      ·exact P
      ·simp[dC,U,R,P]at J
     subst P
     have V:wo us0 qs gr0 b ⟨3,u,(⟨t,⟨q,E,D⟩,B,⟨⟨⟨n,C,z⟩,A⟩,j⟩,⟨⟨f,d,i⟩,a⟩,⟨m,e⟩,K⟩:aN),c,I,v,w,o⟩=EC qs b ⟨3,u,(⟨t,⟨q,E,D⟩,B,⟨⟨⟨n,C,z⟩,A⟩,j⟩,⟨⟨f,d,i⟩,a⟩,⟨m,e⟩,K⟩:aN),c,I,v,w,o⟩:=rfl
     refine Kd hx (by omega) T hI Z (fi:=79) (fd:=81) (b':=O6 b (⟨3,u,(⟨t,⟨q,E,D⟩,B,⟨⟨⟨n,C,z⟩,A⟩,j⟩,⟨⟨f,d,i⟩,a⟩,⟨m,e⟩,K⟩:aN),c,I,v,w,o⟩,x)) (by kernel_rfl) (by kernel_rfl) 3 u t q E D B n C z A j f d i a m e c I v w o G L Y (λg=>ZW) J (ft:=EC qs b ⟨3,u,(⟨t,⟨q,E,D⟩,B,⟨⟨⟨n,C,z⟩,A⟩,j⟩,⟨⟨f,d,i⟩,a⟩,⟨m,e⟩,K⟩:aN),c,I,v,w,o⟩)
      (λH' F=>Z5 (dep+1) F.g.fr F.bk.at hok hul hql 3 u t q E D B n C z A j f d i a m e c I v w o G) ?_ ?_ ?_
     ·intro h H' F
      obtain⟨H2,U,R,P⟩:=Z4 (dep+1) F.g.fr F.bk hok 3 u t q E D B n C z A j f d i a m e c I v w o G hql (by simpa [EC] using h)
      exact⟨H2,X,U,R,P⟩
     ·intro h H' W
      exact N (by rw[V,h];simp) H' W
     ·intro h H' xh' M h'
      exact S ⟨J,by rw[V];exact h⟩ H' xh' M h'
end
end Go.Proofs.YtdbiffjdomokfaaGreat
namespace Go.Proofs.YtdbiffjdomokfaaGreat
open Go.Ab
attribute [local simp] aU aK aG aW aV cz lT ba aO aQ cg cf bI bc ay bE gw
theorem Pb{f:FuncId}(d:(env.mode f == 2)=false)(c:Bool)(dep:Nat){H:ai}(r:Ref){args xs:List AV}(h:args.mapM (view H.get depth)=some xs)(b:bY H.get args=[]){y:AV}(g:aF env f xs=some y) :
 mY env c (aF env) (cE env dep) H r (some (.fn (.func f) [] [])) args=some ((aE r depth y []).1,keyed r 0 (Ay true (aE r depth y []).2) H):=by
 have a:env.mode f≠2:=by simpa using d
 have e:([]++args++[]:List AV)=args:=by simp
 unfold mY
 simp only[kn,if_neg a,e,h,g,b]
 simp[jX,mz,EY]
section
variable{xu xq:AV}{us:List Clear}{qs:List aC}{gr:Int}(hu:Sl 3 (cW us) xu)(hq:Sl 5 (cN qs) xq)(hul:us.length<1000000)(hql:qs.length<1000000)
include hu hq hul hql
theorem Zd(dep d t:Nat){gg:Nat}{H:ai}(u:Fr H)(i:gg=H.gen d t) : ∃h g m p H',mY env false (aF env) (cE env dep) H ⟨d,t,gg,0⟩ (some (.fn (.func 42) [] [])) [.agg [xu,xq,aI gr]]=some (.agg [h,g,aI gr],H')/\cF H H'/\mH 3 (cW us) H' h m/\mH 5 (cN qs) H' g p:=by
 subst i
 have v:=PH (gr:=gr) hu hq (by omega) (by omega)
 have n:=vc hu
 have o:=vc hq
 generalize rq xu=h at *
 generalize rq xq=g at *
 have j:=Pb (H:=H) (f:=42) (by kernel_rfl) false dep ⟨d,t,H.gen d t,0⟩ (args:=[.agg [xu,xq,aI gr]]) (by simp[hu.r,hq.r]) (by simp[hu.r,hq.r]) v
 rw[j]
 have a : ∀(q:Ref)(c:bA),H.get q=some c ->∀k,(⟨d,t,H.gen d t,k⟩:Ref)≠q:=by
  intro q c hq k
  have l:(H.get q).isSome=true:=by rw[hq];rfl
  exact ud u l _ _ _
 rcases n with ⟨rfl,b⟩ | rfl | ⟨rfl,b⟩<;>rcases o with ⟨rfl,e⟩ | rfl | ⟨rfl,e⟩
 ·simp[aE,Ay,keyed]
  refine⟨bZ,bZ,bZ,bZ,_,⟨⟨by simp,by simp⟩,rfl⟩,⟨?_,λq c hq=>?_⟩,.inl ⟨rfl,.inl ⟨rfl,b⟩⟩,.inl ⟨rfl,.inl ⟨rfl,e⟩⟩⟩
  ·exact by simp(maxDischargeDepth:=12) [ai.get_put,an,aj,Fr.nil,au,af,ah,ad,ae,ao,ak,aa, *]
  ·simp[a q c hq,hq]
 ·simp[aE,Ay,keyed]
  refine⟨bZ,.cC ⟨d,t,H.gen d t,0⟩ 0 (cN qs).length none,bZ,.cG 5 (cN qs) none,_,⟨⟨by simp,by simp⟩,rfl⟩,⟨?_,λq c hq=>?_⟩,.inl ⟨rfl,.inl ⟨rfl,b⟩⟩,.inr ⟨_,none,rfl,by simp,rfl,bD _⟩⟩
  ·exact by simp(maxDischargeDepth:=12) [ai.get_put,an,aj,Fr.nil,au,af,ah,ad,ae,ao,ak,aa, *]
  ·simp[a q c hq,hq]
 ·simp[aE,Ay,keyed]
  refine⟨bZ,.cC ⟨d,t,H.gen d t,0⟩ 0 0 (some 0),bZ,.cG 5 (cN qs) (some 0),_,⟨⟨by simp,by simp⟩,rfl⟩,⟨?_,λq c hq=>?_⟩,.inl ⟨rfl,.inl ⟨rfl,b⟩⟩,.inr ⟨_,some 0,by rw[e];rfl,by simp[e],rfl,by rw[e];simp⟩⟩
  ·exact by simp(maxDischargeDepth:=12) [ai.get_put,an,aj,Fr.nil,au,af,ah,ad,ae,ao,ak,aa, *]
  ·simp[a q c hq,hq]
 ·simp[aE,Ay,keyed]
  refine⟨.cC ⟨d,t,H.gen d t,0⟩ 0 (cW us).length none,bZ,.cG 3 (cW us) none,bZ,_,⟨⟨by simp,by simp⟩,rfl⟩,⟨?_,λq c hq=>?_⟩,.inr ⟨_,none,rfl,by simp,rfl,bD _⟩,.inl ⟨rfl,.inl ⟨rfl,e⟩⟩⟩
  ·exact by simp(maxDischargeDepth:=12) [ai.get_put,an,aj,Fr.nil,au,af,ah,ad,ae,ao,ak,aa, *]
  ·simp[a q c hq,hq]
 ·simp[aE,Ay,keyed]
  refine⟨.cC ⟨d,t,H.gen d t,0⟩ 0 (cW us).length none,.cC ⟨d,t,H.gen d t,1⟩ 0 (cN qs).length none,.cG 3 (cW us) none,.cG 5 (cN qs) none,_,⟨⟨by simp,by simp⟩,rfl⟩,⟨?_,λq c hq=>?_⟩,.inr ⟨_,none,rfl,by simp,rfl,bD _⟩,.inr ⟨_,none,rfl,by simp,rfl,bD _⟩⟩
  ·exact by simp(maxDischargeDepth:=12) [ai.get_put,an,aj,Fr.nil,au,af,ah,ad,ae,ao,ak,aa, *]
  ·simp[a q c hq,hq]
 ·simp[aE,Ay,keyed]
  refine⟨.cC ⟨d,t,H.gen d t,0⟩ 0 (cW us).length none,.cC ⟨d,t,H.gen d t,1⟩ 0 0 (some 0),.cG 3 (cW us) none,.cG 5 (cN qs) (some 0),_,⟨⟨by simp,by simp⟩,rfl⟩,⟨?_,λq c hq=>?_⟩,.inr ⟨_,none,rfl,by simp,rfl,bD _⟩,.inr ⟨_,some 0,by rw[e];rfl,by simp[e],rfl,by rw[e];simp⟩⟩
  ·exact by simp(maxDischargeDepth:=12) [ai.get_put,an,aj,Fr.nil,au,af,ah,ad,ae,ao,ak,aa, *]
  ·simp[a q c hq,hq]
 ·simp[aE,Ay,keyed]
  refine⟨.cC ⟨d,t,H.gen d t,0⟩ 0 0 (some 0),bZ,.cG 3 (cW us) (some 0),bZ,_,⟨⟨by simp,by simp⟩,rfl⟩,⟨?_,λq c hq=>?_⟩,.inr ⟨_,some 0,by rw[b];rfl,by simp[b],rfl,by rw[b];simp⟩,.inl ⟨rfl,.inl ⟨rfl,e⟩⟩⟩
  ·exact by simp(maxDischargeDepth:=12) [ai.get_put,an,aj,Fr.nil,au,af,ah,ad,ae,ao,ak,aa, *]
  ·simp[a q c hq,hq]
 ·simp[aE,Ay,keyed]
  refine⟨.cC ⟨d,t,H.gen d t,0⟩ 0 0 (some 0),.cC ⟨d,t,H.gen d t,1⟩ 0 (cN qs).length none,.cG 3 (cW us) (some 0),.cG 5 (cN qs) none,_,⟨⟨by simp,by simp⟩,rfl⟩,⟨?_,λq c hq=>?_⟩,.inr ⟨_,some 0,by rw[b];rfl,by simp[b],rfl,by rw[b];simp⟩,.inr ⟨_,none,rfl,by simp,rfl,bD _⟩⟩
  ·exact by simp(maxDischargeDepth:=12) [ai.get_put,an,aj,Fr.nil,au,af,ah,ad,ae,ao,ak,aa, *]
  ·simp[a q c hq,hq]
 ·simp[aE,Ay,keyed]
  refine⟨.cC ⟨d,t,H.gen d t,0⟩ 0 0 (some 0),.cC ⟨d,t,H.gen d t,1⟩ 0 0 (some 0),.cG 3 (cW us) (some 0),.cG 5 (cN qs) (some 0),_,⟨⟨by simp,by simp⟩,rfl⟩,⟨?_,λq c hq=>?_⟩,.inr ⟨_,some 0,by rw[b];rfl,by simp[b],rfl,by rw[b];simp⟩,.inr ⟨_,some 0,by rw[e];rfl,by simp[e],rfl,by rw[e];simp⟩⟩
  ·exact by simp(maxDischargeDepth:=12) [ai.get_put,an,aj,Fr.nil,au,af,ah,ad,ae,ao,ak,aa, *]
  ·simp[a q c hq,hq]
def Bz(us:List Clear)(gr:Int):ji:=⟨us,gr,[],[],[]⟩
def An(us:List Clear)(qs:List aC)(gr:Int)(l:List (cB × AV)):Option ji:=if tY us qs gr=true/\l.length<=2048 then Ya us qs gr (Bz us gr) l else none
theorem ahC{l:List (cB × AV)}{z:AV}(w:Sl 24 (bh l) z)(o : ∀p∈l,Ba p)(dep:Nat){H:ai}(J:Fr H) :
 ∃y H',cE env dep (.fn 35) [.agg [xu,xq,aI gr],z] H=some (y,H')/\Hr H us qs gr (l.map BL) (An us qs gr l) y H':=by
 have x:bB env Tryz.f35 (dep+1) [.code KH] (vg 0 [.agg [xu,xq,aI gr],z]) H λy H'=>Hr H us qs gr (l.map BL) (An us qs gr l) y H':=by
  have I:=Cz (gr:=gr) hu hq (by omega) (by omega)
  have d : ∀b1:bA,cF H ((⟨dep+1,2,H.gen (dep+1) 2,0⟩,some b1) :: H):=λb1=>cF.cons J _ _ _
  refine JM _ _ _ _ _ λg=>?_
  have e : ¬(tY us qs gr=true/\l.length<=2048) ->∀H',cF H H'->Hr H us qs gr (l.map BL) (An us qs gr l) (.tup [.v (.pointer none),aB false]) H':=λN H' u=>by
   unfold An;rw[if_neg N];exact⟨rfl,u⟩
  cases hp:tY us qs gr with
  | false=>
   rw[hp]at I e
   have b:=λb1=>e (by simp) _ (d b1)
   simp[af,ah,ad,ae,aa, *,ui,w.r,hu.r,hq.r,bad]
   all_goals exact b _
  | true=>
   rw[hp]at I
   by_cases C:l.length<=2048
   ·have D : ¬(2048:Int)<l.length:=by omega
    obtain⟨S,L,P,R,a,V,u,G,F⟩:=Zd (gr:=gr) hu hq hul hql (dep+1) (dep+1) 20 (gg:=H.gen (dep+1) 20) (d ⟨3,[.agg [xu,xq,aI gr]],false,false⟩).fr (by simp)
    have i:=u.fr
    have n:=(d _).trans u
    have U:=G.s.cells
    have T:=F.s.cells
    have B:=λH=>W4 true (dep+1) H (dep+1) 25
    clear e
    simp[af,ah,ad,ae,aa, *,ui,w.r,hu.r,hq.r,bad,B]
    have A:An us qs gr l=Ya us qs gr (Bz us gr) l:=by unfold An;rw[if_pos ⟨hp,C⟩]
    refine WT (rb:=⟨dep+1,24,a.gen (dep+1) 24,0⟩) (rs:=⟨dep+1,21,a.gen (dep+1) 21,0⟩) (ru:=⟨dep+1,22,a.gen (dep+1) 22,0⟩) (rk:=⟨dep+1,25,a.gen (dep+1) 25,0⟩) (gr0:=gr) (dep:=dep) (H0:=H)
     (Q:=λy H'=>Hr H us qs gr (l.map BL) (An us qs gr l) y H') w C o hul hql l 0 (Bz us gr) [] _ bZ bZ rfl (by omega) rfl ⟨λp h=>(by cases h),λp h=>(by cases h),λp h=>(by cases h),(by simp[Bz]),(by simpa [Bz] using hul)⟩ (by simp[Bz]) ?_ (λy H' h=>by rw[A];exact h)
    have m : ∀b1 b2 b3 E:bA,cF a ((⟨dep+1,25,a.gen (dep+1) 25,0⟩,some E) :: (⟨dep+1,24,a.gen (dep+1) 24,0⟩,some b3) :: (⟨dep+1,22,a.gen (dep+1) 22,0⟩,some b2) :: (⟨dep+1,21,a.gen (dep+1) 21,0⟩,some b1) :: a):=λb1 b2 b3 E=>⟨by simp(maxDischargeDepth:=12) [ai.get_put,an,aj,Fr.nil,au,af,ah,ad,ae,ao,ak,aa, *],λq c hq=>by
     have O:(a.get q).isSome=true:=by rw[hq];rfl
     simp[af i O,hq]⟩
    have j : ∀t,H.get ⟨dep+1,t,a.gen (dep+1) t,0⟩=none:=λt=>by
     cases k:H.get ⟨dep+1,t,a.gen (dep+1) t,0⟩ with
     | none=>rfl
     | some c=>have:=n.old _ _ k;rw[ao i]at this;cases this
    refine⟨n.trans (m _ _ _ _),⟨⟨xu,xq,S,L,P,R,?_,hu,hq,G.grow (m _ _ _ _),F.grow (m _ _ _ _)⟩,?_,?_,.inl ⟨rfl,rfl⟩,⟨rfl,rfl⟩,?_,λr k=>(by cases k)⟩,.inl ⟨rfl,rfl⟩,λr k=>(by cases k),λr k=>(by cases k),?_,⟨rfl,rfl,rfl,rfl⟩,⟨j _,j _,j _⟩⟩
    ·simp[Bz]
    ·simp[Bz,cI]
    ·simp[Bz,cI]
    ·simp[AV.at?]
    ·simp
   ·have D:(2048:Int)<l.length:=by omega
    have b:=λb1=>e (by simp[C]) _ (d b1)
    simp[af,ah,ad,ae,aa, *,ui,w.r,hu.r,hq.r,bad]
    all_goals exact b _
 obtain⟨y,H',M,K⟩:=pv (f:=35) (by kernel_rfl) (by kernel_rfl) (by kernel_rfl) (by kernel_rfl) (by kernel_rfl) x
 exact⟨y,H',M,K⟩
end
end Go.Proofs.YtdbiffjdomokfaaGreat
namespace Go.Proofs.YtdbiffjdomokfaaGreat
open Go.Ab
attribute [local simp] aU aK aG aW aV cz lT ba aO aQ cg cf bI bc ay bE gw
def KL(o:Option ji)(a:Int)(zero:AV)(R:ji->AV->ai->Prop)(y:AV)(H:ai):Prop:=match o with
 | none=>y = .tup [zero,aI 8]
 | some b=>if a=0 then R b y H else y = .tup [zero,aI a]
section
variable{xu xq:AV}{us:List Clear}{qs:List aC}{gr:Int}(hu:Sl 3 (cW us) xu)(hq:Sl 5 (cN qs) xq)(hul:us.length<1000000)(hql:qs.length<1000000){l:List (cB × AV)}{x1:AV}(hx:Sl 24 (bh l) x1)(hall : ∀p∈l,Ba p)
include hu hq hul hql hx hall
theorem R7(dep:Nat){H:ai}(B:Fr H)(c:Int){fd:FuncId}(A:(env.mode fd == 2)=true){caps:List AV}{R:ji->AV->ai->Prop}
 (u:c=0 ->∀b a rb rs ru k d,An us qs gr l=some b->cF H a->lj a rb rs ru k d us qs gr b->Own 24 (bh (l.map BL)) a d->(∀r,d.at?=some r->r.t=62)->zm b ->∃z e q,cE env (dep+1) (.fn fd) ([]++[.ptr rb 0 0]++caps) a=some (.tup [z,e],q)/\R b (.tup [z,e]) q) :
 ∃y H',cE env dep (.fn 32) [.agg [xu,xq,aI gr],x1,aI c,.fn (.func fd) [] caps] H=some (y,H')/\KL (An us qs gr l) c bZ R y H':=by
 have n:bB env Tryz.f32 (dep+1) [.code nk] (vg 0 [.agg [xu,xq,aI gr],x1,aI c,.fn (.func fd) [] caps]) H λy H'=>KL (An us qs gr l) c bZ R y H':=by
  have h : ∀b1:bA,cF H ((⟨dep+1,4,H.gen (dep+1) 4,0⟩,some b1) :: H):=λb1=>cF.cons B _ _ _
  obtain⟨y,a,C,j⟩:=ahC (gr:=gr) hu hq hul hql hx hall (dep+1) (h ⟨3,[.agg [xu,xq,aI gr]],false,false⟩).fr
  refine nd _ _ _ _ _ _ _ λg=>?_
  unfold KL
  simp[af,ah,ad,ae,aa, *,iF,hx.r,hu.r,hq.r]
  refine It (by kernel_rfl) C ?_
  cases v:An us qs gr l with
  | none=>
   rw[v]at j
   obtain⟨rfl,D⟩:=j
   simp
  | some b=>
   rw[v]at j
   obtain⟨rb,rs,ru,rk,k,d,rfl,i,w⟩:=j
   by_cases x:c=0
   ·subst x
    obtain⟨z,e,q,m,o⟩:=u rfl b a rb rs ru k d v ((h _).trans i.g) i.bk i.row (λr e=>(i.t62 r e).1) w
    simp
    refine It A m ?_
    simp
    exact o
   ·simp[x]
 obtain⟨y,H',m,o⟩:=pv (f:=32) (by kernel_rfl) (by kernel_rfl) (by kernel_rfl) (by kernel_rfl) (by kernel_rfl) n
 exact⟨y,H',m,o⟩
end
end Go.Proofs.YtdbiffjdomokfaaGreat
namespace Go.Proofs.YtdbiffjdomokfaaGreat
open Go.Ab
attribute [local simp] aU aK aG aW aV cz lT ba aO aQ cg cf bI bc ay bE gw
theorem q6{E:Env}{f:FuncId}{fn:Func}{c:Code}{args:List AV}{R:AV->Prop}(e:E.spec f args=none)(d:E.allowed f=true)(o:E.P.funcs[f]?=some fn)(j:fn.body=some c)(z:Nat.ble args.length fn.ntmps=true)
 (h:bB E fn 0 [.code c] (vg 0 args) [] λx H =>∃y,handed E f x H y/\R y) : ∃y,aF E f args=some y/\R y:=by
 obtain⟨x,H,⟨y,a,v⟩,n,k⟩:=h.h (λ_=>AV.undef) args λi=>(GH args i).symm
 refine⟨y,A2.2 ⟨n,λm w=>?_⟩,v⟩
 obtain⟨st,b,g,u⟩:=k m w
 subst u
 unfold dq
 rw[e]
 unfold vd
 simp only[d,if_true,o,j,if_pos (Ip z),b,g,Option.map_some]
 unfold handed at a
 split
 ·rename_i b
  rw[if_pos b]at a
  rw[if_pos a.1]
  exact a.2
 ·rename_i b
  rw[if_neg b]at a
  exact a
def dY(v:ib)(p:cB × AV):Bool:=decide (p.1.kind=3)||nK ⟨p.1.op.h.lv,p.1.op.h.cats⟩ v
section
variable{recs:List (cB × AV)}(hrl:recs.length<=2048)(hok : ∀p∈recs,Ba p){dep:Nat}{q:Ref}(hqt:q.t≠30/\q.t≠6){xr:AV}(hxt : ∀r,xr.at?=some r->r.t=62)(v1:UInt8)(v2:UInt32){Q:AV->ai->Prop}
include hrl hok hqt hxt
theorem Rt : ∀(s:List (cB × AV)) (k:Nat) (outs:List (cB × AV)) (H:ai) (V:AV),recs.drop k=s->k<=recs.length->outs.length<=k->Fr H->Own 24 (bh recs) H xr->H.get q=some ⟨2,[.agg [a8 v1,aw v2]],false,false⟩->Own 24 (bh outs) H V->(∀r,V.at?=some r->r.t=30) ->
 (∀H' F,Fr H'->Own 24 (bh (outs++s.filter (dY ⟨v1,v2⟩))) H' F->Q (.tup [F,aI 0]) H')->bB env Tryz.f34 (dep+1) kC [(12,aI k),(3,V),(1,.ptr q 0 0),(10,xr),(11,aI recs.length)] H Q:=by
 intro s
 induction s with
 | nil=>
  rintro k outs H V hs hk ho hF B hq b ht hQ
  obtain rfl:=drop_nil hs hk
  have hfin:=hQ H V hF (by simpa using b)
  refine uI _ _ _ _ _ _ _ _ λg=>?_
  clear hQ B b hok
  simp[af,ah,ad,ae,aa, *,fX]
  all_goals exact hfin
 | cons p s ih=>
  rintro k outs H V hs hk ho hF B hq b ht hQ
  obtain⟨hlt,hg,U,hg'⟩:=drop_cons hs
  have hp:=hok p (hg ▸ lM hlt)
  have e3:=IntWalk.i64_in ((k:Int)+1) (by omega)
  have hlt':(k:Int)<recs.length:=by omega
  obtain⟨r,rfl,B⟩ : ∃r,xr = .cC r 0 recs.length none/\H.get r=some ⟨24,bh recs,true,false⟩:=by
   rcases B with ⟨rfl,h⟩ | ⟨r,rfl,h⟩
   ·have:=congrArg List.length h;simp at this;subst this;simp at hlt
   ·exact⟨r,by simp,h⟩
  have N:=cP outs
  have heo:bh (outs++[p])=bh outs++[p.1.val p.2]:=by simp[bh]
  have T:=λ(h:dY ⟨v1,v2⟩ p=true) H' F=>ih (k+1) (outs++[p]) H' F U (by omega) (by simp;omega)
  have G:=λ(h:dY ⟨v1,v2⟩ p=false) H' h1 h2 b h4=>ih (k+1) outs H' V U (by omega) (by omega) h1 h2 b h4 ht (λH' F h5 h6=>hQ H' F h5 (by rw[o4,h];exact h6))
  have Y:=λ(h:dY ⟨v1,v2⟩ p=true) H' F h5 (h6:Own 24 (bh (outs++[p]++s.filter (dY ⟨v1,v2⟩))) H' F)=>hQ H' F h5 (by rw[o4,if_pos h];simpa using h6)
  have a:=λ(h:dY ⟨v1,v2⟩ p=true) H' F h1 h2 b h4 h5=>T h H' F h1 h2 b h4 h5 (Y h)
  rw[heo]at a
  clear T Y hQ ih heo
  obtain⟨⟨k1,u,⟨K,⟨d,f,S⟩,O,⟨⟨⟨J,R,L⟩,M⟩,z⟩,⟨⟨n,j,y⟩,i⟩,⟨A,m⟩,al⟩,c,g1,v,w,o⟩,x⟩:=p
  obtain⟨C,hal⟩:=hp
  simp only at C hal
  have hrd:bW (bh recs) k 0 24 true=some (.agg [a8 k1,aI u,a8 K,a8 d,aw f,a8 S,aI O,a8 J,aw R,a8 L,aI M,aI z,a8 n,aw j,a8 y,aI i,a8 A,aw m,x,aI c,aI g1,a8 v,aw w,aB o]):=by simp[bh,hg',cB.val]
  have e62:=hxt r rfl
  obtain⟨rd,rt,rg,rk⟩:=r
  simp only at e62
  subst e62
  rename_i hr0
  have lr:(H.get ⟨rd,62,rg,rk⟩).isSome=true:=by rw[hr0];rfl
  have lq:(H.get q).isSome=true:=by rw[hq];rfl
  have hLq:=IG d f v1 v2
  have Z:dY ⟨v1,v2⟩ (⟨k1,u,(⟨K,⟨d,f,S⟩,O,⟨⟨⟨J,R,L⟩,M⟩,z⟩,⟨⟨n,j,y⟩,i⟩,⟨A,m⟩,al⟩:aN),c,g1,v,w,o⟩,x)=(decide (k1=3)||nK ⟨d,f⟩ ⟨v1,v2⟩):=rfl
  rw[Z]at a G
  generalize nK ⟨d,f⟩ ⟨v1,v2⟩=b1 at *
  have E:(bh recs).length=recs.length:=cP recs
  clear B hs U hg hg' hok hxt Z
  simp only[cB.val]at a
  generalize bh recs=er at *
  generalize recs.length=nr at *
  generalize bh outs=eo at *
  generalize outs.length=nh at *
  refine uI _ _ _ _ _ _ _ _ λg=>?_
  by_cases X:k1=3
  ·subst X
   have W:=a (by simp)
   clear G a
   rcases b with ⟨rfl,b⟩ | ⟨t,rfl,b⟩
   ·rw[b]at W
    clear N ho ht b nh
    simp[af,ah,ad,ae,aa, *,fX,C.r, -IG, -Gu]
    refine W _ (.cC ⟨dep+1,30,H.gen (dep+1) 30,0⟩ 0 1 none) ?_ (.inr ⟨⟨rd,62,rg,rk⟩,by simp[E],?_⟩) ?_ (.inr ⟨⟨dep+1,30,H.gen (dep+1) 30,0⟩,rfl,?_⟩) (λr B=>by cases B;rfl)
    ·exact by simp(maxDischargeDepth:=12) [ai.get_put,an,aj,Fr.nil,au,af,ah,ad,ae,ao,ak,aa, *]
    ·exact by simp(maxDischargeDepth:=12) [ai.get_put,an,aj,Fr.nil,au,af,ah,ad,ae,ao,ak,aa, *]
    ·exact by simp(maxDischargeDepth:=12) [ai.get_put,an,aj,Fr.nil,au,af,ah,ad,ae,ao,ak,aa, *]
    ·exact by simp(maxDischargeDepth:=12) [ai.get_put,an,aj,Fr.nil,au,af,ah,ad,ae,ao,ak,aa, *]
   ·have I:=ht t rfl
    clear ht
    obtain⟨D,tt,tg,tk⟩:=t
    simp only at I
    subst I
    have f6:jW 24 160 nh true none (some ⟨24,eo,true,false⟩) (some [.agg [a8 3,aI u,a8 K,a8 d,aw f,a8 S,aI O,a8 J,aw R,a8 L,aI M,aI z,a8 n,aw j,a8 y,aI i,a8 A,aw m,x,aI c,aI g1,a8 v,aw w,aB o]]):=by
     simp;omega
    have l8:(H.get ⟨D,30,tg,tk⟩).isSome=true:=by rw[b];rfl
    have n1:(⟨D,30,tg,tk⟩:Ref)≠q:=λe=>hqt.1 (by rw[<-e])
    have n1':=n1.symm
    clear hqt
    simp[af,ah,ad,ae,aa, *,fX,C.r, -IG, -Gu]
    refine W _ (.cC ⟨D,30,H.gen D 30,0⟩ 0 (nh+1) none) ?_ (.inr ⟨⟨rd,62,rg,rk⟩,by simp[E],?_⟩) ?_ (.inr ⟨⟨D,30,H.gen D 30,0⟩,by simp[N],?_⟩) (λr B=>by cases B;rfl)
    ·exact by simp(maxDischargeDepth:=12) [ai.get_put,an,aj,Fr.nil,au,af,ah,ad,ae,ao,ak,aa, *]
    ·exact by simp(maxDischargeDepth:=12) [ai.get_put,an,aj,Fr.nil,au,af,ah,ad,ae,ao,ak,aa, *]
    ·exact by simp(maxDischargeDepth:=12) [ai.get_put,an,aj,Fr.nil,au,af,ah,ad,ae,ao,ak,aa, *]
    ·exact by simp(maxDischargeDepth:=12) [ai.get_put,an,aj,Fr.nil,au,af,ah,ad,ae,ao,ak,aa, *]
  ·cases b1 with
   | true=>
    have W:=a (by simp)
    clear G a
    rcases b with ⟨rfl,b⟩ | ⟨t,rfl,b⟩
    ·rw[b]at W
     clear N ho ht b nh
     simp[af,ah,ad,ae,aa, *,fX,C.r, -IG, -Gu,X]
     refine W _ (.cC ⟨dep+1,30,H.gen (dep+1) 30,0⟩ 0 1 none) ?_ (.inr ⟨⟨rd,62,rg,rk⟩,by simp[E],?_⟩) ?_ (.inr ⟨⟨dep+1,30,H.gen (dep+1) 30,0⟩,rfl,?_⟩) (λr B=>by cases B;rfl)
     ·exact by simp(maxDischargeDepth:=12) [ai.get_put,an,aj,Fr.nil,au,af,ah,ad,ae,ao,ak,aa, *]
     ·exact by simp(maxDischargeDepth:=12) [ai.get_put,an,aj,Fr.nil,au,af,ah,ad,ae,ao,ak,aa, *]
     ·exact by simp(maxDischargeDepth:=12) [ai.get_put,an,aj,Fr.nil,au,af,ah,ad,ae,ao,ak,aa, *]
     ·exact by simp(maxDischargeDepth:=12) [ai.get_put,an,aj,Fr.nil,au,af,ah,ad,ae,ao,ak,aa, *]
    ·have I:=ht t rfl
     clear ht
     obtain⟨D,tt,tg,tk⟩:=t
     simp only at I
     subst I
     have f6:jW 24 160 nh true none (some ⟨24,eo,true,false⟩) (some [.agg [a8 k1,aI u,a8 K,a8 d,aw f,a8 S,aI O,a8 J,aw R,a8 L,aI M,aI z,a8 n,aw j,a8 y,aI i,a8 A,aw m,x,aI c,aI g1,a8 v,aw w,aB o]]):=by
      simp;omega
     have l8:(H.get ⟨D,30,tg,tk⟩).isSome=true:=by rw[b];rfl
     have n1:(⟨D,30,tg,tk⟩:Ref)≠q:=λe=>hqt.1 (by rw[<-e])
     have n1':=n1.symm
     clear hqt
     simp[af,ah,ad,ae,aa, *,fX,C.r, -IG, -Gu,X]
     refine W _ (.cC ⟨D,30,H.gen D 30,0⟩ 0 (nh+1) none) ?_ (.inr ⟨⟨rd,62,rg,rk⟩,by simp[E],?_⟩) ?_ (.inr ⟨⟨D,30,H.gen D 30,0⟩,by simp[N],?_⟩) (λr B=>by cases B;rfl)
     ·exact by simp(maxDischargeDepth:=12) [ai.get_put,an,aj,Fr.nil,au,af,ah,ad,ae,ao,ak,aa, *]
     ·exact by simp(maxDischargeDepth:=12) [ai.get_put,an,aj,Fr.nil,au,af,ah,ad,ae,ao,ak,aa, *]
     ·exact by simp(maxDischargeDepth:=12) [ai.get_put,an,aj,Fr.nil,au,af,ah,ad,ae,ao,ak,aa, *]
     ·exact by simp(maxDischargeDepth:=12) [ai.get_put,an,aj,Fr.nil,au,af,ah,ad,ae,ao,ak,aa, *]
   | false=>
    have hn:=G (by simp[X])
    clear G a
    have h3':=λH' (g:cF H H')=>Own.grow b g
    have P : ∀b1:bA,cF H ((⟨dep+1,6,H.gen (dep+1) 6,0⟩,some b1) :: H):=λb1=>cF.cons hF _ _ _
    clear b ht
    simp[af,ah,ad,ae,aa, *,fX,C.r, -IG, -Gu,X]
    refine hn _ (P _).fr (.inr ⟨⟨rd,62,rg,rk⟩,by simp[E],(P _).old _ _ hr0⟩) ((P _).old _ _ hq) (h3' _ (P _))
end
section
variable{xu xq:AV}{us:List Clear}{qs:List aC}{gr:Int}(hu:Sl 3 (cW us) xu)(hq:Sl 5 (cN qs) xq)(hul:us.length<1000000)(hql:qs.length<1000000){l:List (cB × AV)}{x1:AV}(hx:Sl 24 (bh l) x1)(hall : ∀p∈l,Ba p)
include hu hq hul hql hx hall
def PV(us:List Clear)(qs:List aC)(gr:Int)(l:List (cB × AV))(v1:UInt8)(v2:UInt32)(y:AV):Prop:=match An us qs gr l with
 | none=>y = .tup [bZ,aI 8]
 | some b=>if v1<=15 then ∃x,Sl 24 (bh ((l.map BL).filter (dY ⟨v1,v2⟩))) x/\y = .tup [x,aI 0] else y = .tup [bZ,aI 8]
theorem WU{b:ji}(h:An us qs gr l=some b):l.length<=2048:=by
 unfold An at h
 split at h
 ·rename_i a;exact a.2
 ·cases h
theorem Rv(u:l.length<=2048)(dep:Nat){H:ai}(m:Fr H){rb rs ru:Ref}{k xr:AV}{b:ji}(f:lj H rb rs ru k xr us qs gr b)(d:Own 24 (bh (l.map BL)) H xr)(hxt : ∀r,xr.at?=some r->r.t=62){q:Ref}(hqt:q.t≠30/\q.t≠6)(v1:UInt8)(v2:UInt32)(h:H.get q=some ⟨2,[.agg [a8 v1,aw v2]],false,false⟩) :
 ∃y H',cE env dep (.fn 34) [.ptr rb 0 0,.ptr q 0 0] H=some (y,H') /\∃a,y = .tup [a,aI 0]/\Own 24 (bh ((l.map BL).filter (dY ⟨v1,v2⟩))) H' a:=by
 refine pv (fn:=Tryz.f34) (c:=Ed) (Q:=λy H' =>∃a,y = .tup [a,aI 0]/\Own 24 (bh ((l.map BL).filter (dY ⟨v1,v2⟩))) H' a) (by kernel_rfl) (by kernel_rfl) (by kernel_rfl) (by kernel_rfl) (by kernel_rfl) ?_
 refine DD _ _ _ _ _ λg=>?_
 have e:=Rt (recs:=l.map BL) (by simpa using u) (λp hp=>by
  obtain⟨o,n,rfl⟩:=r8.1 hp
  have:=hall o n
  exact⟨E4 this.1,this.2⟩) (dep:=dep) hqt hxt v1 v2 (Q:=λy H' =>∃a,y = .tup [a,aI 0]/\Own 24 (bh ((l.map BL).filter (dY ⟨v1,v2⟩))) H' a) (l.map BL) 0 [] H bZ rfl (by omega) (by simp) m d h (.inl ⟨rfl,rfl⟩) (λr d=>by cases d) (λH' a _ v=>⟨a,rfl,v⟩)
 obtain⟨i,j,C,x,z,A,w,_⟩:=f.box
 have B:=f.one
 have hrl:=Own.len d
 rw[cP,p7]at hrl
 rw[p7]at e
 clear hx hall f d
 simp[af,ah,ad,ae,aa, *,yn]
 exact e
theorem Tt(v1:UInt8)(v2:UInt32) : ∃y,aF env 21 [.agg [xu,xq,aI gr],x1,.agg [a8 v1,aw v2]]=some y/\PV us qs gr l v1 v2 y:=by
 refine q6 (fn:=Tryz.f21) (c:=Hj) (by kernel_rfl) (by kernel_rfl) (by kernel_rfl) (by kernel_rfl) (by kernel_rfl) ?_
 refine F2 _ _ _ _ _ λg=>?_
 have j:Fr [(⟨0,5,0,0⟩,some ⟨2,[.agg [a8 v1,aw v2]],false,false⟩),(⟨0,3,0,0⟩,some ⟨3,[.agg [xu,xq,aI gr]],false,false⟩)]:=by simp(maxDischargeDepth:=12) [ai.get_put,an,aj,Fr.nil,au,af,ah,ad,ae,ao,ak,aa, *]
 have C:=Tv v1 v2
 obtain⟨y,w,x,a⟩:=R7 (gr:=gr) hu hq hul hql hx hall 0 j (bad (decide (v1<=15))) (fd:=34) (by kernel_rfl) (caps:=[.ptr ⟨0,5,0,0⟩ 0 0])
  (R:=λb y H =>∃d,y = .tup [d,aI 0]/\Own 24 (bh ((l.map BL).filter (dY ⟨v1,v2⟩))) H d) (λA b w rb rs ru z xr f k n m i hok=>by
   obtain⟨y,v,o,d,rfl,u⟩:=Rv (gr:=gr) hu hq hul hql hx hall (WU hu hq hul hql hx hall f) 1 k.fr n m i (q:=⟨0,5,0,0⟩) ⟨by simp,by simp⟩ v1 v2 (k.old ⟨0,5,0,0⟩ _ (by simp))
   exact⟨_,_,v,o,d,rfl,u⟩)
 simp[af,ah,ad,ae,aa, *,AI,hu.r,hq.r, -Q4]
 refine It (by kernel_rfl) x ?_
 unfold KL at a
 unfold PV
 cases f:An us qs gr l with
 | none=>rw[f]at a;subst a;simp
 | some b=>
  rw[f]at a
  dsimp only at a ⊢
  by_cases e:v1<=15
  ·simp only[e,decide_true,bad,if_true]at a
   obtain⟨d,rfl,h⟩:=a
   generalize (l.map BL).filter (dY ⟨v1,v2⟩)=rr at *
   rcases h with ⟨rfl,h⟩ | ⟨r,rfl,h⟩
   ·simp[e,h]
    done
   ·have B:=cP rr
    generalize bh rr=er at *
    simp[h,e]
    done
  ·simp only[e,decide_false,bad]at a
   simp at a
   subst a
   simp[e]
   done
end
end Go.Proofs.YtdbiffjdomokfaaGreat
namespace Go.Proofs.YtdbiffjdomokfaaGreat
open Go.Ab
attribute [local simp] aU aK aG aW aV cz lT ba aO aQ cg cf bI bc ay bE gw
theorem Oc(z:UInt8)(w:UInt8)(L:UInt32)(K:UInt8)(G:Int)(u:UInt8)(J:UInt32)(C:UInt8)(D:Int)(q:Int)(k:UInt8)(f:UInt32)(o:UInt8)(b:Int)(t:UInt8)(j:UInt32)(F:UInt8)(v:UInt8)(H:UInt32)(M:UInt8)(E:Int)(A:UInt8)(N:UInt32)(I:UInt8)(B:Int)(h:Int)(a:UInt8)(i:UInt32)(d:UInt8)(n:Int)(e:UInt8)(c:UInt32){x y:AV}{l m:List Int}(hx:Sl 1 (rows l) x)(hy:Sl 1 (rows m) y)(hl:l.length<1000000000)(hm:m.length<1000000000):aF env 40 [.agg [a8 z,a8 w,aw L,a8 K,aI G,a8 u,aw J,a8 C,aI D,aI q,a8 k,aw f,a8 o,aI b,a8 t,aw j,x],.agg [a8 F,a8 v,aw H,a8 M,aI E,a8 A,aw N,a8 I,aI B,aI h,a8 a,aw i,a8 d,aI n,a8 e,aw c,y]]=some (aB (nZ (⟨z,⟨w,L,K⟩,G,⟨⟨⟨u,J,C⟩,D⟩,q⟩,⟨⟨k,f,o⟩,b⟩,⟨t,j⟩,l⟩:aN) (⟨F,⟨v,H,M⟩,E,⟨⟨⟨A,N,I⟩,B⟩,h⟩,⟨⟨a,i,d⟩,n⟩,⟨e,c⟩,m⟩:aN))):=by
 refine aH rfl (by kernel_rfl) (xI _ _ _ _ λg=>?_)
 have hq:=Ta hx hy (by omega)
 have P:=hx.r
 have O:=hy.r
 unfold nZ
 cases U:decide (z=F) with
 | false=>simp[af,ah,ad,ae,aa, *,cX,gk,ca]
 | true=>
 cases T:(decide (w=v)&&decide (L=H)&&decide (K=M)) with
 | false=>simp[af,ah,ad,ae,aa, *,cX,gk,ca]
 | true=>
 cases S:decide (G=E) with
 | false=>simp[af,ah,ad,ae,aa, *,cX,gk,ca]
 | true=>
 cases V:(decide (u=A)&&decide (J=N)&&decide (C=I)&&decide (D=B)&&decide (q=h)) with
 | false=>simp[af,ah,ad,ae,aa, *,cX,gk,ca]
 | true=>
 cases R:(decide (k=a)&&decide (f=i)&&decide (o=d)&&decide (b=n)) with
 | false=>simp[af,ah,ad,ae,aa, *,cX,gk,ca]
 | true=>
 cases Q:(decide (t=e)&&decide (j=c)) with
 | false=>simp[af,ah,ad,ae,aa, *,cX,gk,ca]
 | true=>simp[af,ah,ad,ae,aa, *,cX,gk,ca]
theorem Wp(T S:UInt8)(R O:Int)(z:UInt8)(w:UInt8)(L:UInt32)(K:UInt8)(G:Int)(u:UInt8)(J:UInt32)(C:UInt8)(D:Int)(q:Int)(k:UInt8)(f:UInt32)(o:UInt8)(b:Int)(t:UInt8)(j:UInt32)(F:UInt8)(v:UInt8)(H:UInt32)(M:UInt8)(E:Int)(A:UInt8)(N:UInt32)(I:UInt8)(B:Int)(h:Int)(a:UInt8)(i:UInt32)(d:UInt8)(n:Int)(e:UInt8)(c:UInt32)(Q P Z V:Int)(v1 v2:UInt8)(Y X:UInt32)(U W:Bool){x y:AV}{l m:List Int}(hx:Sl 1 (rows l) x)(hy:Sl 1 (rows m) y)(hl:l.length<1000000000)(hm:m.length<1000000000) :
 aF env 31 [.agg [a8 T,aI R,a8 z,a8 w,aw L,a8 K,aI G,a8 u,aw J,a8 C,aI D,aI q,a8 k,aw f,a8 o,aI b,a8 t,aw j,x,aI Q,aI Z,a8 v1,aw Y,aB U],.agg [a8 S,aI O,a8 F,a8 v,aw H,a8 M,aI E,a8 A,aw N,a8 I,aI B,aI h,a8 a,aw i,a8 d,aI n,a8 e,aw c,y,aI P,aI V,a8 v2,aw X,aB W]] =
  some (aB (mC ⟨T,R,(⟨z,⟨w,L,K⟩,G,⟨⟨⟨u,J,C⟩,D⟩,q⟩,⟨⟨k,f,o⟩,b⟩,⟨t,j⟩,l⟩:aN),Q,Z,v1,Y,U⟩ ⟨S,O,(⟨F,⟨v,H,M⟩,E,⟨⟨⟨A,N,I⟩,B⟩,h⟩,⟨⟨a,i,d⟩,n⟩,⟨e,c⟩,m⟩:aN),P,V,v2,X,W⟩)):=by
 refine aH rfl (by kernel_rfl) (xF _ _ _ _ λg=>?_)
 have hq:=Oc z w L K G u J C D q k f o b t j F v H M E A N I B h a i d n e c hx hy hl hm
 have hr:=hx.r
 have hr2:=hy.r
 unfold mC
 cases e1:decide (T=S) with
 | false=>simp[af,ah,ad,ae,aa, *,eQ,gk,ca]
 | true=>
 cases e2:decide (R=O) with
 | false=>simp[af,ah,ad,ae,aa, *,eQ,gk,ca]
 | true=>
 cases e3:nZ (⟨z,⟨w,L,K⟩,G,⟨⟨⟨u,J,C⟩,D⟩,q⟩,⟨⟨k,f,o⟩,b⟩,⟨t,j⟩,l⟩:aN) (⟨F,⟨v,H,M⟩,E,⟨⟨⟨A,N,I⟩,B⟩,h⟩,⟨⟨a,i,d⟩,n⟩,⟨e,c⟩,m⟩:aN) with
 | false=>simp[af,ah,ad,ae,aa, *,eQ,gk,ca]
 | true=>
 cases e4:decide (Q=P) with
 | false=>simp[af,ah,ad,ae,aa, *,eQ,gk,ca]
 | true=>simp[af,ah,ad,ae,aa, *,eQ,gk,ca]
theorem T9{a b:aN}(h:nZ a b=true):a=b:=by
 obtain⟨H,⟨D,M,L⟩,E,⟨⟨⟨A,K,P⟩,w⟩,t⟩,⟨⟨k,e,q⟩,d⟩,⟨v,j⟩,Q⟩:=a
 obtain⟨B,⟨C,F,N⟩,z,⟨⟨⟨I,O,G⟩,J⟩,f⟩,⟨⟨c,i,n⟩,o⟩,⟨u,g⟩,R⟩:=b
 simp[nZ]at h
 simp[h]
theorem Ln{a b:cB}(h:mC a b=true):a=b:=by
 obtain⟨n,u,z,B,A,t,v,a8⟩:=a
 obtain⟨b1,b2,b3,q,b5,w,o,C⟩:=b
 simp only[mC,aZ,decide_eq_true_eq]at h
 obtain⟨f,g,e,i,k,⟨j,c⟩,d⟩:=h
 rw[f,g,T9 e,i,k,j,c,d]
theorem N8(a:cB):mC a a=true:=by simp[mC,nZ]
def PM(l:List (cB × AV)):List cB:=l.map (·.1)
@[simp] theorem agr(l:List (cB × AV)):(PM l).length=l.length:=by simp[PM]
theorem QJ(a b:cB):mC a b=true↔a=b:=⟨Ln,λh=>by rw[h];exact N8 b⟩
theorem adU{p q:cB × AV}(hp:Ba p)(hq:Ba q):aF env 31 [p.1.val p.2,q.1.val q.2]=some (aB (mC p.1 q.1)):=by
 obtain⟨⟨k,u,⟨M,⟨I,R,Q⟩,J,⟨⟨⟨F,P,U⟩,D⟩,A⟩,⟨⟨j,d,z⟩,b⟩,⟨C,i⟩,l⟩,c,g,v,w,o⟩,x⟩:=p
 obtain⟨⟨k',V,⟨G,⟨H,K,S⟩,E,⟨⟨⟨N,T,L⟩,O⟩,e⟩,⟨⟨a,h,n⟩,t⟩,⟨B,f⟩,m⟩,X,W,Y,w',o'⟩,y⟩:=q
 exact Wp k k' u V M I R Q J F P U D A j d z b C i G H K S E N T L O e a h n t B f c X g W v Y w w' o o' hp.1 hq.1 (by have:=hp.2;simp at this;omega) (by have:=hq.2;simp at this;omega)
def zB:List cB->List cB->Bool
 | [],[]=>true
 | a :: l,b :: m=>mC a b&&zB l m
 | _,_=>false
theorem IB : ∀(l m:List cB),zB l m=true↔l=m:=by
 intro l
 induction l with
 | nil=>intro m;cases m<;>simp[zB]
 | cons a l c=>intro m;cases m with
  | nil=>simp[zB]
  | cons b m=>simp[zB,QJ,c]
theorem QK{l m:List cB}(h:l.length≠m.length):zB l m=false:=by
 cases e:zB l m with
 | false=>rfl
 | true=>exact absurd (congrArg List.length ((IB l m).1 e)) h
section
variable{l m:List (cB × AV)}{x y:AV}(hx:Sl 24 (bh l) x)(hy:Sl 24 (bh m) y)(hl : ∀p∈l,Ba p)(hm : ∀p∈m,Ba p)(hbig:l.length<1000000)
include hx hy hl hm hbig
theorem JX(u:l.length=m.length){Q:AV->ai->Prop}{H:ai} : ∀(s t:List (cB × AV)) (k:Nat) (i:Int),l.drop k=s->m.drop k=t->k<=l.length->i=k->(Q (aB (zB (PM s) (PM t))) H) ->
 bB env Tryz.f18 0 fS [(5,aI i),(1,y),(0,x)] H Q:=by
 intro s
 induction s with
 | nil=>
  rintro t k i hs ht hk rfl hQ
  obtain rfl:=drop_nil hs hk
  rw[u,Nq]at ht
  subst ht
  refine mV _ _ _ _ _ λg=>?_
  simp[af,ah,ad,ae,aa, *,fU,hx.r]
  all_goals simpa [PM,zB] using hQ
 | cons p s A=>
  rintro t k i hs ht hk rfl hQ
  obtain⟨F,E,n,v⟩:=drop_cons hs
  have z:k<m.length:=by omega
  obtain⟨q,t',rfl⟩ : ∃q t',t=q :: t':=by
   cases t with
   | nil=>have:=congrArg List.length ht;simp at this;omega
   | cons q t'=>exact⟨q,t',rfl⟩
  obtain⟨_,o,w,d⟩:=drop_cons ht
  have j:=hl p (E ▸ lM _)
  have b:=hm q (o ▸ lM _)
  have hq:=adU j b
  have G:=IntWalk.i64_in ((k:Int)+1) (by omega)
  have c:=A t' (k+1) ((k:Int)+1) n w (by omega) (by simp)
  have D:=j.1.r
  have C:=b.1.r
  have h:bW (bh l) k 0 24 true=some (p.1.val p.2):=by simp[bh,v,cB.val]
  have f:bW (bh m) k 0 24 true=some (q.1.val q.2):=by simp[bh,d,cB.val]
  have a:Q (aB (mC p.1 q.1&&zB (PM s) (PM t'))) H:=hQ
  clear A hQ hl hm
  unfold cB.val at hq h f
  generalize mC p.1 q.1=e at *
  refine mV _ _ _ _ _ λg=>?_
  cases e with
  | false=>simp[af,ah,ad,ae,aa, *,fU,hx.r,hx.idx,hy.r,hy.idx];simpa using a
  | true=>
   rw[nu]at a
   have B:=c a
   clear c a
   simp[af,ah,ad,ae,aa, *,fU,hx.r,hx.idx,hy.r,hy.idx]
theorem QR:aF env 18 [x,y]=some (aB (zB (PM l) (PM m))):=by
 refine aH rfl (by kernel_rfl) (uM _ _ _ _ λg=>?_)
 by_cases a:l.length=m.length
 ·have h:=JX hx hy hl hm hbig a (Q:=λv H=>handed env 18 v H (aB (zB (PM l) (PM m)))) (H:=[]) l m 0 0 rfl rfl (by omega) rfl (by simp)
  have b:=hx.r
  have c:=hy.r
  rw[cP]at b c
  rw[a]at b
  clear hl hm
  simp[af,ah,ad,ae,aa, *,kF]
  exact h
 ·have d : ¬(l.length:Int)=m.length:=by omega
  rw[QK (by simpa using a)]
  clear hl hm
  simp[af,ah,ad,ae,aa, *,kF,hx.r,hy.r]
end
section
variable{xu xq:AV}{us:List Clear}{qs:List aC}{gr:Int}(hu:Sl 3 (cW us) xu)(hq:Sl 5 (cN qs) xq){l:List (cB × AV)}{x:AV}(hx:Sl 24 (bh l) x)(hl : ∀p∈l,Sl 1 (rows p.1.op.l) p.2)(most:Int)
include hu hq hx hl
theorem OY{q:Ref}{Q:AV->ai->Prop}{H:ai}(N:H.get q=some ⟨3,[.agg [xu,xq,aI gr]],false,false⟩)(e : ∀t:Bool,(t=false->us.length<=100/\qs.length<=100/\(l.length:Int)<=most /\∀p∈l.take 300,p.1.op.l.length<=300)->Q (aB t) H) :
 ∀(s:List (cB × AV)) (k:Nat) (i n:Int),l.drop k=s->k<=l.length->i=k->k<=300->0<=n->n<=1000 * k->(∀p∈l.take k,min (p.1.op.l.length:Int) 1000<=n) ->
 bB env Tryz.f13 0 eW [(8,aI i),(1,x),(7,aI n),(2,aI most),(3,.ptr q 0 0)] H Q:=by
 intro s
 have O:=Tm gr hu hq
 have a : ∀n:Int,(∀p∈l.take 300,min (p.1.op.l.length:Int) 1000<=n)->Q (aB (decide (100<(us.length:Int))||decide (100<(qs.length:Int))||decide (most<l.length)||decide (300<n))) H:=by
  intro n v
  refine e _ λh=>?_
  simp at h
  refine⟨by omega,by omega,by omega,λp hp=>?_⟩
  have:=v p hp
  omega
 generalize (decide (100<(us.length:Int))||decide (100<(qs.length:Int)))=gg at *
 induction s with
 | nil=>
  rintro k i n hs hk rfl C h0 v hm
  obtain rfl:=drop_nil hs hk
  rw[FF]at hm
  have b:=a n (λp hp=>hm p (zw hp))
  refine nP _ _ _ _ _ _ _ λg=>?_
  clear e a hl hm
  cases gg<;>by_cases d:most<l.length<;>simp[af,ah,ad,ae,aa, *,gV,hx.r,hu.r,hq.r]
  all_goals simpa [d] using b
 | cons p s u=>
  rintro k i n hs hk rfl C h0 v hm
  obtain⟨G,F,f,c⟩:=drop_cons hs
  have M:=(hl p (F ▸ lM _)).r
  have P:=IntWalk.i64_in ((k:Int)+1) (by omega)
  refine nP _ _ _ _ _ _ _ λg=>?_
  have K:(k:Int)<l.length:=by omega
  by_cases E:k<300
  ·have w:(k:Int)<300:=by omega
   have D:bW (bh l) k 18 1 false=some p.2:=by simp[bh,c,cB.val]
   have B:bW (bh l) k 11 1 false=some (aI p.1.op.s.many):=by simp[bh,c,cB.val]
   have o:=λm (I:0<=m) (J:m<=1000) (C:min (p.1.op.l.length:Int) 1000<=m)=>u (k+1) ((k:Int)+1) (n+m) f (by omega) (by simp) (by omega) (by omega) (by omega) (by
    intro q hq
    rw[Ju,c]at hq
    rcases nM.1 hq with hq | hq
    ·have:=hm q hq;omega
    ·simp at hq;subst hq;omega)
   have L:=λm (I:0<=m) (J:m<=1000)=>IntWalk.i64_in (n+m) (by omega)
   clear u e a hl hm
   simp[af,ah,ad,ae,aa, *,gV,hx.r,hx.idx]
   rw[L _ (by repeat' split<;>omega) (by repeat' split<;>omega)]
   exact o _ (by repeat' split<;>omega) (by repeat' split<;>omega) (by repeat' split<;>omega)
  ·have j:k=300:=by omega
   subst j
   have b:=a n hm
   have z:300<l.length:=by omega
   have A:(300:Int)<l.length:=by omega
   clear u e a hl hm
   cases gg<;>by_cases d:most<l.length<;>simp[af,ah,ad,ae,aa, *,gV,hx.r,hu.r,hq.r]
   all_goals simpa [d] using b
theorem Tu : ∃t:Bool,aF env 13 [.agg [xu,xq,aI gr],x,aI most]=some (aB t)/\(t=false->us.length<=100/\qs.length<=100/\(l.length:Int)<=most /\∀p∈l.take 300,p.1.op.l.length<=300):=by
 have h : ∃y,aF env 13 [.agg [xu,xq,aI gr],x,aI most]=some y /\∃t:Bool,y=aB t/\(t=false->us.length<=100/\qs.length<=100/\(l.length:Int)<=most /\∀p∈l.take 300,p.1.op.l.length<=300):=by
  refine q6 (fn:=Tryz.f13) (c:=w8) (by kernel_rfl) (by kernel_rfl) (by kernel_rfl) (by kernel_rfl) (by kernel_rfl) ?_
  refine wJ _ _ _ _ _ λg=>?_
  have a:=λ(q:Ref)(H:ai)(b:H.get q=some ⟨3,[.agg [xu,xq,aI gr]],false,false⟩)=>OY (q:=q) (H:=H) (Q:=λx H =>∃y,handed env 13 x H y /\∃t:Bool,y=aB t/\(t=false->us.length<=100/\qs.length<=100/\(l.length:Int)<=most /\∀p∈l.take 300,p.1.op.l.length<=300)) (gr:=gr) hu hq hx hl most b (λt d=>⟨aB t,by simp,t,rfl,d⟩) l 0 0 0 rfl (by omega) rfl (by simp) (by simp) (by simp) (by simp)
  have key : ∀Q:AV->ai->Prop,(∀(q:Ref)(H:ai),H.get q=some ⟨3,[.agg [xu,xq,aI gr]],false,false⟩->bB env Tryz.f13 0 eW [(8,aI 0),(1,x),(7,aI 0),(2,aI most),(3,.ptr q 0 0)] H Q)->lF g (.agg [xu,xq,aI gr]) x (aI most) [] Q:=by
   intro Q h
   clear a
   simp[af,ah,ad,ae,aa, *,lF,hu.r,hq.r]
  exact key _ a
 obtain⟨y,e,t,rfl,f⟩:=h
 exact⟨t,e,f⟩
end
end Go.Proofs.YtdbiffjdomokfaaGreat
namespace Go.Proofs.YtdbiffjdomokfaaGreat
open Go.Ab
theorem Uh{us0:List Clear}{qs:List aC}{gr0:Int} : ∀(l:List (cB × AV)) {b b':ji},Ya us0 qs gr0 b l=some b' ->∀p∈l,dC p.1=true
 | [],_,_,_=>by intro p hp;cases hp
 | q :: l,b,b',h=>by
  unfold Ya at h
  split at h
  ·rename_i a
   intro p hp
   rcases nw.1 hp with rfl | hp
   ·exact a.1
   ·exact Uh l h p hp
  ·cases h
theorem ZS{us:List Clear}{qs:List aC}{gr:Int}{l:List (cB × AV)}{b:ji}(h:An us qs gr l=some b) : ∀p∈l,dC p.1=true:=by
 unfold An at h
 split at h
 ·exact Uh l h
 ·cases h
end Go.Proofs.YtdbiffjdomokfaaGreat
namespace Go.Proofs.YtdbiffjdomokfaaGreat
open Go.Ab
theorem zb{a b:UInt32}:a &&& ~~~b=0 ↔ ∀i,a.toBitVec.getLsbD i=true->b.toBitVec.getLsbD i=true:=by
 rw[<-UInt32.toBitVec_inj]
 constructor
 ·intro h i c
  have:=congrArg (λz=>BitVec.getLsbD z i) h
  simp only[NB,NA,Jx,Jw,UInt32.toBitVec_ofNat]at this
  have d:i<32:=by
   rcases fe i 32 with h | h
   ·exact h
   ·rw[BitVec.getLsbD_of_ge _ _ h]at c;cases c
  simp[c,d]at this
  exact this
 ·intro h
  apply BitVec.eq_of_getLsbD_eq
  intro i c
  simp only[NB,NA,Jx,Jw]
  have:=h i
  cases e:a.toBitVec.getLsbD i with
  | false=>simp
  | true=>simp[this e]
theorem GO{a b c:ib}(d:nK a b=true)(e:nK b c=true):nK a c=true:=by
 simp only[nK,aZ,decide_eq_true_eq]at d e ⊢
 exact⟨UInt8.le_trans d.1 e.1,zb.2 λi f=>zb.1 e.2 i (zb.1 d.2 i f)⟩
def HV(v:ib)(o:aN):Bool:=nK (KC o) v
theorem Ge(ents:List (bR × AV))(i j:bR):fA (jk i (aB true) ents) j=(decide (j=i)||fA ents j):=by
 unfold fA
 by_cases e:j=i
 ·subst e;rw[oh];simp
 ·rw[mF e];simp[e]
theorem yQ : ∀(a:List bR)(ents:List (bR × AV)) (j:bR),fA (tJ ents a) j=(decide (j∈a)||fA ents j)
 | [],ents,j=>by simp
 | i :: a,ents,j=>by
  rw[EJ,yQ a,Ge]
  by_cases e:j=i<;>simp[e]
theorem WX{s:vu}{i:bR}(h:i∈cb s):No i=⟨s.f.h.lv,s.f.h.cats⟩:=by
 unfold cb at h
 obtain⟨k,_,rfl⟩:=r8.1 h
 rfl
theorem WS{o:aN}(h:mK o=true)(k:o.kind=1):o.s.f.h=o.h:=by
 unfold mK BO at h
 rw[if_pos k]at h
 simp only[aZ,GR]at h
 exact(QL _ _).1 h.2.2.2.2.2.2.1
theorem DU{v w:ib}(b:nK w v=true)(i:bR) : ∀(l:List aN)(out:List ib),uZ out (l.filter (HV v)) i w=uZ out l i w
 | [],out=>rfl
 | o :: l,out=>by
  rw[o4]
  by_cases e:HV v o=true
  ·rw[if_pos e]
   exact DU b i l _
  ·rw[if_neg e,DU b i l out]
   have a:jT o i w=false:=by
    cases a:jT o i w with
    | false=>rfl
    | true=>
     unfold jT at a
     simp only[aZ]at a
     exact absurd (GO a.2.2 b) e
   show uZ out l i w=uZ (if jT o i w then rW out o.to else out) l i w
   rw[a];rfl
theorem Ja{v:ib}{o:aN}(a:HV v o=true)(l:List aN):kD (l.filter (HV v)) o=kD l o:=by
 unfold kD ph
 simp only[DU a]
structure Nn (v:ib) (ops:List (aN × AV)) (ents:List (bR × AV)) (ops':List (aN × AV)) (ents':List (bR × AV)):Prop where
 opsE:opsOf ops'=(opsOf ops).filter (HV v)
 there : ∀i,nK (No i) v=true->fA ents' i=fA ents i
 right:lu [] (opsOf ops)=true
 right':lu [] (opsOf ops')=true
 len:ents.length<=64 * ops.length
 len':ents'.length<=64 * ops'.length
theorem Nn.lens{v:ib}{ops:List (aN × AV)}{ents:List (bR × AV)}{ops':List (aN × AV)}{ents':List (bR × AV)}(h:Nn v ops ents ops' ents'):ops'.length<=ops.length:=by
 have e:=congrArg List.length h.opsE
 have a:=Im (HV v) (opsOf ops)
 simp only[opsOf,p7]at e a
 omega
theorem IA{v:ib}{ents ents':List (bR × AV)}(b : ∀i,nK (No i) v=true->fA ents' i=fA ents i){o:aN}(a:HV v o=true)(i:bR):uS ents' o i=uS ents o i:=by
 unfold uS
 cases e:nK (No i) (KC o) with
 | false=>simp
 | true=>rw[b i (GO e a)]
theorem Ez{v:ib}{ents ents':List (bR × AV)}(b : ∀i,nK (No i) v=true->fA ents' i=fA ents i){o:aN}(a:HV v o=true):ra ents' o=ra ents o:=by
 unfold ra
 simp only[IA b a]
theorem any_congr{α:Type}{p q:α->Bool} : ∀ {l:List α},(∀x∈l,p x=q x)->l.any p=l.any q
 | [],_=>rfl
 | x :: l,h=>by
  rw[Fz,Fz,h x gG,any_congr λy a=>h y (fW _ a)]
theorem y7{l:List aN}(h:lu [] l=true)(a:l.length<=2048):pU l=0:=by
 unfold pU
 rw[if_neg (by omega),if_pos h]
section
variable{v:ib}{ops:List (aN × AV)}{ents:List (bR × AV)}{ops':List (aN × AV)}{ents':List (bR × AV)}(h:Nn v ops ents ops' ents')(hn:ops.length<=100)
include h hn
theorem U8{o:aN}(b:HV v o=true)(e:mK o=true):u9 ops' ents' o=u9 ops ents o:=by
 have n:=h.lens
 have m:=h.len
 have p:=h.len'
 have l:=gp (k7 e)
 have f:tQ ops' ents' o=tQ ops ents o:=by
  unfold tQ
  by_cases c:o.kind=1
  ·rw[if_pos c,if_pos c]
   unfold fF
   have a:(cb o.s).any (fA ents')=(cb o.s).any (fA ents):=any_congr λi j=>by
    refine h.there i ?_
    rw[WX j,WS e c]
    exact b
   rw[IA h.there b,a,if_neg (show ¬8192<(ents'.length:Int)+o.s.many by omega),if_neg (show ¬8192<(ents.length:Int)+o.s.many by omega)]
  ·rw[if_neg c,if_neg c]
   by_cases d:o.kind=2
   ·rw[if_pos d,if_pos d]
    unfold yR
    rw[Ez h.there b]
   ·rw[if_neg d,if_neg d]
    unfold yS
    have k:pU (opsOf ops)=0:=y7 h.right (by simp[opsOf];omega)
    have g:pU (opsOf ops')=0:=y7 h.right' (by simp[opsOf];omega)
    rw[Ez h.there b,k,g,h.opsE,Ja b]
 unfold u9
 rw[f,if_neg (by omega),if_neg (by omega)]
theorem Qc{o:aN}(a:u9 ops ents o=0)(d:mK o=true):kD (opsOf ops) o=true:=by
 unfold u9 at a
 rw[if_neg (by omega)]at a
 unfold tQ at a
 by_cases b:o.kind=3
 ·rw[if_neg (by rw[b];decide),if_neg (by rw[b];decide)]at a
  unfold yS at a
  split at a
  ·cases a
  ·split at a
   ·rename_i c;exact c.2
   ·cases a
 ·unfold kD
  rw[if_neg b]
end
theorem Ah{l:List aN}{o:aN}(h:lu [] l=true)(a:mK o=true)(b:kD l o=true):lu [] (l++[o])=true:=by
 rw[Oi,h,nu]
 show(mK o&&kD ([]++l) o&&true)=true
 rw[tL,a,b];rfl
theorem pS(l:List (aN × AV))(p:aN × AV):opsOf (l++[p])=opsOf l++[p.1]:=by simp[opsOf]
def yc(ents:List (bR × AV))(o:aN):List (bR × AV):=if o.kind=1 then tJ ents (cb o.s) else ents
theorem Jd{ents:List (bR × AV)}{o:aN}(a:mK o=true):(yc ents o).length<=ents.length+64:=by
 have b:=gp (k7 a)
 unfold yc
 split
 ·have:=BX (cb o.s) ents
  have c:(cb o.s).length=o.s.many.toNat:=by simp[cb]
  omega
 ·omega
section
variable{v:ib}{ops:List (aN × AV)}{ents:List (bR × AV)}{ops':List (aN × AV)}{ents':List (bR × AV)}(h:Nn v ops ents ops' ents')(hn:ops.length<=100)
include h hn
theorem Nn.low{p p':aN × AV}(e:p'.1=p.1)(d:HV v p.1=true)(a:mK p.1=true)(b:u9 ops ents p.1=0):mK p'.1=true/\u9 ops' ents' p'.1=0/\Nn v (ops++[p]) (yc ents p.1) (ops'++[p']) (yc ents' p'.1):=by
 rw[e]
 have c:u9 ops' ents' p.1=0:=by rw[U8 h hn d a];exact b
 refine⟨a,c,?_,λi f=>?_,?_,?_,?_,?_⟩
 ·rw[pS,pS,h.opsE,List.filter_append,e]
  simp[d]
 ·unfold yc
  split
  ·rw[yQ,yQ,h.there i f]
  ·exact h.there i f
 ·rw[pS];exact Ah h.right a (Qc h hn b a)
 ·rw[pS,e]
  refine Ah h.right' a ?_
  rw[h.opsE,Ja d]
  exact Qc h hn b a
 ·have:=Jd (ents:=ents) a
  have:=h.len
  simp;omega
 ·have:=Jd (ents:=ents') a
  have:=h.len'
  simp;omega
end
theorem Nn.nil(v:ib):Nn v [] [] [] []:=⟨rfl,λ_ _=>rfl,rfl,rfl,bD _,bD _⟩
theorem Ha{p:aN × AV} : ∀ {s ops:List (aN × AV)} {ents:List (bR × AV)},sk ops ents (s++[p])=(sk ops ents s).bind λq=>if mK p.1=true/\u9 q.1 q.2 p.1=0 then some (q.1++[p],yc q.2 p.1) else none
 | [],ops,ents=>by
  show(if mK p.1=true/\u9 ops ents p.1=0 then sk (ops++[p]) (yc ents p.1) [] else none)=_
  rfl
 | q :: s,ops,ents=>by
  simp only[Nr,sk]
  split
  ·exact Ha
  ·rfl
end Go.Proofs.YtdbiffjdomokfaaGreat
namespace Go.Proofs.YtdbiffjdomokfaaGreat
open Go.Ab
def q9(h:vI)(l:List (cB × AV)):Int:=l.foldl (λs p=>if p.1.kind=2/\p.1.op.h=h then p.1.op.serial else s) 0
theorem I3(h:vI)(l:List (cB × AV))(p:cB × AV):q9 h (l++[p])=if p.1.kind=2/\p.1.op.h=h then p.1.op.serial else q9 h l:=by
 simp[q9]
structure Ser (l:List (cB × AV)) (b:ji):Prop where
 ser : ∀h:vI,(s9 (cm h b.ses)).s=q9 h l/\((s9 (cm h b.ses)).o=false->q9 h l=0)
 up : ∀h:vI,0<=q9 h l/\q9 h l<16777216 /\∀p∈l,p.1.kind=2->p.1.op.h=h->p.1.op.serial<=q9 h l
section
variable{us0:List Clear}{qs:List aC}{gr0:Int}{l:List (cB × AV)}{b:ji}{p:cB × AV}(h:Ser l b)(his:dC p.1=true)
include h his
theorem Ser.two(m:p.1.kind=2)(x:C0 us0 qs gr0 b p.1=true):Ser (l++[p]) (vG b p.1.op p.1.code (uQ p.2))/\p.1.op.serial=q9 p.1.op.h l+1:=by
 simp only[C0,aZ,decide_eq_true_eq]at x
 obtain⟨ho,_,g,y,t⟩:=x
 have d:mK p.1.op=true:=by
  unfold dC at his
  rw[if_neg (by rw[m];decide),if_pos m]at his
  simp only[aZ]at his
  exact his.2.1
 have w:1<=p.1.op.serial/\p.1.op.serial<16777216:=by
  simp only[mK,aZ,decide_eq_true_eq]at d
  exact⟨d.2.1,d.2.2.1⟩
 have n:=(h.ser p.1.op.h).1
 have u:=h.up p.1.op.h
 have v:p.1.op.serial=q9 p.1.op.h l+1:=by
  rw[g]
  show IntKind.i64.wrap ((s9 (cm p.1.op.h b.ses)).s+1)=_
  rw[n]
  exact IntWalk.i64_in _ (by omega)
 refine⟨?_,v⟩
 have f : ∀a:vI,q9 a (l++[p])=if a=p.1.op.h then p.1.op.serial else q9 a l:=λa=>by
  rw[I3]
  by_cases e:a=p.1.op.h
  ·subst e;rw[if_pos ⟨m,rfl⟩,if_pos rfl]
  ·rw[if_neg (λj=>e j.2.symm),if_neg e]
 refine⟨λa=>?_,λa=>?_⟩
 ·rw[f]
  show(s9 (cm a (jk p.1.op.h (A7.av { nB b p.1.op with s:=IntKind.i64.wrap ((nB b p.1.op).s+1)}) b.ses))).s=_/\((s9 (cm a (jk p.1.op.h (A7.av { nB b p.1.op with s:=IntKind.i64.wrap ((nB b p.1.op).s+1)}) b.ses))).o=false->_)
  by_cases e:a=p.1.op.h
  ·subst e
   rw[oh,Cu,if_pos rfl]
   refine⟨g.symm,λj=>?_⟩
   simp only at j
   rw[j]at ho
   cases ho
  ·rw[mF e,if_neg e]
   exact h.ser a
 ·rw[f]
  by_cases e:a=p.1.op.h
  ·subst e
   rw[if_pos rfl]
   refine⟨by omega,by omega,λq c k i=>?_⟩
   rcases nM.1 c with c | c
   ·have:=u.2.2 q c k i;omega
   ·rw[uC]at c;subst c;exact Jk _
  ·rw[if_neg e]
   refine⟨(h.up a).1,(h.up a).2.1,λq c k i=>?_⟩
   rcases nM.1 c with c | c
   ·exact(h.up a).2.2 q c k i
   ·rw[uC]at c;subst c;exact absurd i.symm e
theorem Ser.step(i:wo us0 qs gr0 b p.1=true):Ser (l++[p]) (O6 b p):=by
 unfold wo at i
 unfold O6
 have c:p.1.kind≠2->(∀a,q9 a (l++[p])=q9 a l) /\∀a:vI,0<=q9 a l/\q9 a l<16777216 /\∀q∈l++[p],q.1.kind=2->q.1.op.h=a->q.1.op.serial<=q9 a l:=by
  intro f
  refine⟨λa=>by rw[I3,if_neg (λn=>f n.1)],λa=>⟨(h.up a).1,(h.up a).2.1,λq j m t=>?_⟩⟩
  rcases nM.1 j with j | j
  ·exact(h.up a).2.2 q j m t
  ·rw[uC]at j;subst j;exact absurd m f
 by_cases k:p.1.kind=1
 ·rw[if_pos k]at i ⊢
  obtain⟨d,g⟩:=c (by rw[k];decide)
  simp only[ED,aZ,dQ]at i
  refine⟨λa=>?_,λa=>by rw[d];exact g a⟩
  rw[d]
  show(s9 (cm a (jk p.1.op.h (A7.av ⟨true,p.1.user,0⟩) b.ses))).s=q9 a l/\((s9 (cm a (jk p.1.op.h (A7.av ⟨true,p.1.user,0⟩) b.ses))).o=false->q9 a l=0)
  by_cases e:a=p.1.op.h
  ·subst e
   rw[oh,Cu]
   exact⟨((h.ser p.1.op.h).2 i.1).symm,λh=>by cases h⟩
  ·rw[mF e]
   exact h.ser a
 ·rw[if_neg k]at i ⊢
  by_cases f:p.1.kind=2
  ·rw[if_pos f]at i ⊢
   exact(h.two his f i).1
  ·rw[if_neg f]
   obtain⟨d,g⟩:=c f
   exact⟨λa=>by rw[d];exact h.ser a,λa=>by rw[d];exact g a⟩
end
section
variable{us0:List Clear}{qs:List aC}{gr0:Int}{l:List (cB × AV)}{b:ji}(ho:An us0 qs gr0 l=some b)
include ho
end
end Go.Proofs.YtdbiffjdomokfaaGreat
namespace Go.Proofs.YtdbiffjdomokfaaGreat
open Go.Ab
attribute [local simp] aU aK aG aW aV cz lT ba aO aQ cg cf bI bc ay bE gw
structure o3 where
 h:vI
 serial:Int
 code:Int
deriving DecidableEq
def o3.enc(e:o3):AV := .agg [a8 e.h.lv,aw e.h.cats,a8 e.h.num,aI e.serial,aI e.code]
def gz(l:List o3):List AV:=l.map o3.enc
@[simp] theorem A4(l:List o3):(gz l).length=l.length:=by simp[gz]
theorem BT(e:o3)(l:List o3):gz (e :: l)=e.enc :: gz l:=rfl
def kS(l:List (cB × AV)):List o3:=l.filterMap λp=>if p.1.kind=3 then none else some ⟨p.1.op.h,p.1.op.serial,p.1.code⟩
theorem IM:(Gf env.P 73).bind (eD env.P)=some (.agg [a8 0,aw 0,a8 0,aI 0,aI 0]):=by kernel_rfl
theorem IN{H:ai}{r:Ref}{n:Nat}{a:Bool}{x:AV}{buf:List AV}(h:H.get r=some (jm n a (x :: buf))) :
 zx env.P H 73 (some (.ch r)) true=some (.tup [x,aB true],H.put r (some (jm n a buf))):=by
 simp only[zx,IM,y8 h];rfl
theorem IP{H:ai}{r:Ref}{n:Nat}(h:H.get r=some (jm n true [])) :
 zx env.P H 73 (some (.ch r)) true=some (.tup [.agg [a8 0,aw 0,a8 0,aI 0,aI 0],aB false],H):=by
 simp only[zx,IM,y8 h];rfl
theorem NY{n:Nat}{r:Ref}(w:r.t=8){Q:AV->ai->Prop} : ∀(s f:List o3)(H:ai)(k:AV),Fr H->H.get r=some (jm n true (gz s))->Own 5 (gz f) H k->(∀q,k.at?=some q->q.t=28)->f.length+s.length<=1000 ->
 (∀H' C,Fr H'->Own 5 (gz (f++s)) H' C->Q (.tup [C,aI 0]) H')->bB env Tryz.f10 0 oF [(6,k),(21,.ch r)] H Q:=by
 intro s
 induction s with
 | nil=>
  intro f H k A m j F B u
  have v:=u H k A (by simpa using j)
  refine xL _ _ _ _ λg=>?_
  refine tI (IP m) ?_
  clear u
  simp
  exact v
 | cons e s G=>
  intro f H k A m j F B u
  have x:(H.get r).isSome=true:=by rw[m];rfl
  have h:=λH' C I J R K=>G (f++[e]) H' C I J R K (by simp at B ⊢;omega) (λD E L O=>u D E L (by simpa using O))
  have o:gz (f++[e])=gz f++[e.enc]:=by simp[gz]
  rw[o]at h
  have i:=A4 f
  have S:f.length<=1000:=by simp at B;omega
  clear G u o B
  refine xL _ _ _ _ λg=>?_
  refine tI (IN (by rw[BT]at m;exact m)) ?_
  obtain⟨rd,rt,rg,rk⟩:=r
  simp only at w
  subst w
  generalize gz f=eo at *
  generalize gz s=es at *
  generalize f.length=nh at *
  simp only[o3.enc]at h ⊢
  obtain⟨⟨a,b,c⟩,d,e⟩:=e
  simp only at h ⊢
  rcases j with ⟨rfl,j⟩ | ⟨t,rfl,j⟩
  ·subst j
   simp at i
   subst i
   simp[A,x,aa]
   refine h _ (.cC ⟨0,28,H.gen 0 28,0⟩ 0 1 none) ?_ ?_ (.inr ⟨⟨0,28,H.gen 0 28,0⟩,rfl,?_⟩) (λq hq=>by cases hq;rfl)
   ·exact by simp(maxDischargeDepth:=12) [ai.get_put,an,aj,Fr.nil,au,af,ah,ad,ae,ao,ak,aa, *]
   ·exact by simp(maxDischargeDepth:=12) [ai.get_put,an,aj,Fr.nil,au,af,ah,ad,ae,ao,ak,aa, *]
   ·exact by simp(maxDischargeDepth:=12) [ai.get_put,an,aj,Fr.nil,au,af,ah,ad,ae,ao,ak,aa, *]
  ·have z:=F t rfl
   obtain⟨y,tt,P,T⟩:=t
   simp only at z
   subst z
   have M:jW 5 32 nh true none (some ⟨5,eo,true,false⟩) (some [.agg [a8 a,aw b,a8 c,aI d,aI e]]):=by
    simp;omega
   have N:(H.get ⟨y,28,P,T⟩).isSome=true:=by rw[j];rfl
   simp[A,x,aa,i,N,j,M,ai.get_put,af,ah]
   refine h _ (.cC ⟨y,28,H.gen y 28,0⟩ 0 (nh+1) none) ?_ ?_ (.inr ⟨⟨y,28,H.gen y 28,0⟩,by simp[i],?_⟩) (λq hq=>by cases hq;rfl)
   ·exact by simp(maxDischargeDepth:=12) [ai.get_put,an,aj,Fr.nil,au,af,ah,ad,ae,ao,ak,aa, *]
   ·exact by simp(maxDischargeDepth:=12) [ai.get_put,an,aj,Fr.nil,au,af,ah,ad,ae,ao,ak,aa, *]
   ·exact by simp(maxDischargeDepth:=12) [ai.get_put,an,aj,Fr.nil,au,af,ah,ad,ae,ao,ak,aa, *]
theorem Ue{z:Nat}{es:List AV}{x:AV}(h:Sl z es x):x.one=true:=by
 rcases h with ⟨rfl,_⟩ | ⟨c,rfl,_⟩
 ·rfl
 ·rfl
theorem Lm(p:cB × AV)(h:p.2.one=true):qQ (p.1.val p.2)=some (if p.1.kind=3 then none else some (o3.enc ⟨p.1.op.h,p.1.op.serial,p.1.code⟩)):=by
 obtain⟨⟨k,u,⟨z,⟨n,q,y⟩,t,⟨⟨⟨B,C,a⟩,D⟩,j⟩,⟨⟨b,g,d⟩,f⟩,⟨m,i⟩,F⟩,c,A,v,w,o⟩,x⟩:=p
 have G:(0:Int)<=(k.toNat:Int)/\(k.toNat:Int)<256:=by have:=k.toNat_lt;omega
 have H:((k.toNat:Int)=3)=(k=3):=by
  apply propext
  constructor
  ·intro e
   apply Be.1
   show k.toNat=3
   omega
  ·rintro rfl;rfl
 have e:qQ (cB.val ⟨k,u,⟨z,⟨n,q,y⟩,t,⟨⟨⟨B,C,a⟩,D⟩,j⟩,⟨⟨b,g,d⟩,f⟩,⟨m,i⟩,F⟩,c,A,v,w,o⟩ x)=(if ((0:Int)<=(k.toNat:Int)/\(k.toNat:Int)<256)/\flat depth (.agg [a8 n,aw q,a8 y,aI t,aI c])=true /\
  [aI u,a8 z,a8 n,aw q,a8 y,aI t,a8 B,aw C,a8 a,aI D,aI j,a8 b,aw g,a8 d,aI f,a8 m,aw i,x,aI c,aI A,a8 v,aw w,aB o].all AV.one=true then some (if (k.toNat:Int)=3 then none else some (.agg [a8 n,aw q,a8 y,aI t,aI c])) else none):=rfl
 have E:x.one=true:=h
 rw[e,if_pos ⟨G,rfl,by simp[E]⟩]
 simp only[H,o3.enc]
theorem QG : ∀(a:List (cB × AV)),(∀p∈a,p.2.one=true) ->∃l,(bh a).mapM qQ=some l/\l.filterMap id=gz (kS a):=by
 intro a
 induction a with
 | nil=>intro _;exact⟨[],rfl,rfl⟩
 | cons p a e=>
  intro h
  obtain⟨l,d,c⟩:=e λq hq=>h q (fW _ hq)
  refine⟨(if p.1.kind=3 then none else some (o3.enc ⟨p.1.op.h,p.1.op.serial,p.1.code⟩)) :: l,?_,?_⟩
  ·show(p.1.val p.2 :: bh a).mapM qQ=_
   rw[lX,Lm p (h p (gG ..)),d];rfl
  ·by_cases b:p.1.kind=3
   ·simpa [b,kS] using c
   ·simpa [b,kS,BT] using c
theorem Iy{a:List (cB × AV)}{x:AV}(hx:Sl 24 (bh a) x)(g : ∀p∈a,p.2.one=true)(i:a.length<=1000)(H:ai) :
 env.thrSpec 23 [x] H=some (.ch (fh H),keyed (fh H) 0 [jm a.length true (gz (kS a))] H):=by
 obtain⟨l,f,e⟩:=QG a g
 have b:=cP a
 have d:xN x=some (bh a):=by
  rcases hx with ⟨rfl,h⟩ | ⟨c,rfl,h⟩
  ·rw[h];rfl
  ·simp only[xN];rw[if_pos (by omega)]
 show Cv 23 [x] H=_
 simp only[Cv,if_true,Cw,d,f,e,b]
theorem Kw(f:cB × AV->Bool)(c : ∀p,f (BL p)=f p) : ∀(l:List (cB × AV)),kS ((l.map BL).filter f)=kS (l.filter f)
 | []=>rfl
 | p :: l=>by
  have a:=Kw f c l
  rw[p6,o4,o4,c p]
  split
  ·by_cases b:p.1.kind=3
   ·simpa [kS,BL,b] using a
   ·simpa [kS,BL,b] using a
  ·exact a
theorem I1{dep:Nat}{f:FuncId}{args:List AV}{H:ai}{z:AV × ai}(h:env.thrSpec f args H=some z):cE env dep (.fn f) args H=some z:=
 wg.2 ⟨0,λm _=>by unfold eS;simp only[h]⟩
def NZ(us:List Clear)(qs:List aC)(gr:Int)(l:List (cB × AV))(v1:UInt8)(v2:UInt32)(y:AV):Prop:=
 if (An us qs gr l).isSome=true/\v1<=15 then ∃x,Sl 5 (gz (kS (l.filter (dY ⟨v1,v2⟩)))) x/\y = .tup [x,aI 0] else y = .tup [bZ,aI 8]
section
variable{xu xq:AV}{us:List Clear}{qs:List aC}{gr:Int}(hu:Sl 3 (cW us) xu)(hq:Sl 5 (cN qs) xq)(hul:us.length<1000000)(hql:qs.length<1000000){l:List (cB × AV)}{x1:AV}(hx:Sl 24 (bh l) x1)(hall : ∀p∈l,Ba p)(hlen:l.length<=1000)
include hu hq hul hql hx hall hlen
theorem Wg(v1:UInt8)(v2:UInt32) : ∃y,aF env 10 [.agg [xu,xq,aI gr],x1,.agg [a8 v1,aw v2]]=some y/\NZ us qs gr l v1 v2 y:=by
 refine q6 (fn:=Tryz.f10) (c:=Hk) (by kernel_rfl) (by kernel_rfl) (by kernel_rfl) (by kernel_rfl) (by kernel_rfl) ?_
 refine F6 _ _ _ _ _ λg=>?_
 obtain⟨w,m,a⟩:=Tt (gr:=gr) hu hq hul hql hx hall v1 v2
 unfold NZ
 unfold PV at a
 cases t:An us qs gr l with
 | none=>
  rw[t]at a
  subst a
  simp[af,ah,ad,ae,aa, *,rS,hu.r,hq.r,hx.r,m]
 | some b=>
  rw[t]at a
  simp only at a
  by_cases f:v1<=15
  ·simp only[f,if_true]at a
   obtain⟨x,o,rfl⟩:=a
   have i : ∀p∈(l.map BL).filter (dY ⟨v1,v2⟩),p.2.one=true:=by
    intro p hp
    obtain⟨q,k,rfl⟩:=r8.1 (Fl.1 hp).1
    exact Ue (E4 (hall q k).1)
   have e:((l.map BL).filter (dY ⟨v1,v2⟩)).length<=1000:=uA (Im ..) (by simpa using hlen)
   have d:=Kw (dY ⟨v1,v2⟩) (λp=>rfl) l
   have j:(kS (l.filter (dY ⟨v1,v2⟩))).length<=1000:=by
    rw[<-d]
    exact uA (NM ..) e
   simp[af,ah,ad,ae,aa, *,rS,hu.r,hq.r,hx.r,o.r,m]
   generalize kS (l.filter (dY ⟨v1,v2⟩))=en at *
   refine It (by kernel_rfl) (I1 (Iy o i e _)) ?_
   rw[d]
   refine NY (n:=((l.map BL).filter (dY ⟨v1,v2⟩)).length) rfl en [] _ _ ?_ ?_ (.inl ⟨rfl,rfl⟩) (λq hq=>by cases hq) (by simpa using j) (λH' z u h=>?_)
   ·exact an (by simp(maxDischargeDepth:=12) [ai.get_put,an,aj,Fr.nil,au,af,ah,ad,ae,ao,ak,aa, *]) rfl _
   ·simp[keyed,ai.get,fh]
   ·simp[f]
    rw[tL]at h
    have v:=A4 en
    generalize gz en=ee at *
    rcases h with ⟨rfl,h⟩ | ⟨r,rfl,h⟩
    ·simp[h]
    ·simp[h]
  ·simp only[f,if_false]at a
   subst a
   simp[af,ah,ad,ae,aa, *,rS,hu.r,hq.r,hx.r,m,f]
end
end Go.Proofs.YtdbiffjdomokfaaGreat
namespace Go.Proofs.YtdbiffjdomokfaaGreat
open Go.Ab
attribute [local simp] aU aK aG aW aV cz lT ba aO aQ cg cf bI bc ay bE gw
def sn(e:o3):Bool:=decide (e.serial=0)
def zV(e:o3):Bool := !decide (e.serial=0)&&decide (e.code=0)
def zU(e:o3):Bool := !decide (e.serial=0) && !decide (e.code=0)
theorem Y0 : ∀(l:List o3),l.countP sn+l.countP zV+l.countP zU=l.length
 | []=>rfl
 | e :: l=>by
  have b:=Y0 l
  simp only[vP,nx]
  by_cases h:e.serial=0
  ·simp[sn,zV,zU,h];omega
  ·by_cases a:e.code=0
   ·simp[sn,zV,zU,h,a];omega
   ·simp[sn,zV,zU,h,a];omega
theorem RM(k:Int)(b : -1000000<=k)(a:k<=1000000):IntKind.i64.wrap k=k:=IntWalk.i64_in k (by omega)
theorem MW{n:Nat}{m:List AV}{P:AV}(V:Sl 24 m P)(hm:m.length<=1000){r q:Ref}(O:r.t=8)(hqt:q.t=6){Q:AV->ai->Prop} : ∀(s:List o3)(a b c:Nat)(H:ai),Fr H->H.get r=some (jm n true (gz s)) ->
 H.get q=some ⟨4,[.agg [aI a,aI b,aI c,aI 0]],false,false⟩->a+b+c+s.length<=1000 ->
 (∀H' (x y z:Nat),x=a+s.countP sn->y=b+s.countP zV->z=c+s.countP zU->Q (.tup [.agg [aI x,aI y,aI z,aI (m.length - x - y - z)],aI 0]) H') ->
 bB env Tryz.f7 0 jx [(6,.ptr q 0 0),(8,P),(22,.ch r)] H Q:=by
 intro s
 induction s with
 | nil=>
  intro a b c H w I hq k v
  have L:=λH'=>v H' a b c (by simp) (by simp) (by simp)
  refine vT _ _ _ _ _ λg=>?_
  refine tI (IP I) ?_
  have f:(H.get q).isSome=true:=by rw[hq];rfl
  have X:=RM ((m.length:Int) - a) (by omega) (by simp at k;omega)
  have W:=RM ((m.length:Int) - a - b) (by simp at k;omega) (by simp at k;omega)
  have e3:=RM ((m.length:Int) - a - b - c) (by simp at k;omega) (by simp at k;omega)
  clear v
  simp[V.r,hq,f,ai.get_put,aa,X,W,e3]
  exact L _
 | cons e s E=>
  intro a b c H w I hq k v
  have i:(H.get r).isSome=true:=by rw[I];rfl
  have f:(H.get q).isSome=true:=by rw[hq];rfl
  have h : ¬r=q:=λe=>by rw[e]at O;omega
  have d : ¬q=r:=λe=>h e.symm
  have D:((⟨0,9,H.gen 0 9,0⟩:Ref)=q)=False:=af w f 0 9 0
  have B:(q=(⟨0,9,H.gen 0 9,0⟩:Ref))=False:=eq_false λe=>cast D e.symm
  have C:((⟨0,9,H.gen 0 9,0⟩:Ref)=r)=False:=af w i 0 9 0
  have A:(r=(⟨0,9,H.gen 0 9,0⟩:Ref))=False:=eq_false λe=>cast C e.symm
  have Y:=RM ((a:Int)+1) (by omega) (by simp at k;omega)
  have Z:=RM ((b:Int)+1) (by omega) (by simp at k;omega)
  have ec:=RM ((c:Int)+1) (by omega) (by simp at k;omega)
  refine vT _ _ _ _ _ λg=>?_
  refine tI (IN (by rw[BT]at I;exact I)) ?_
  by_cases j:e.serial=0
  ·have J:=λH' K G F=>E (a+1) b c H' K G F (by simp at k;omega) (λo x y z hx U R=>v o x y z (by rw[vP,show sn e=true from by simp[sn,j]];simp only[if_true,jH,if_false];omega) (by rw[vP,show zV e=false from by simp[zV,j]];simp only[if_true,jH,if_false];omega) (by rw[vP,show zU e=false from by simp[zU,j]];simp only[if_true,jH,if_false];omega))
   clear E v k
   obtain⟨⟨N,h_2,M⟩,S,T⟩:=e
   simp only at j
   subst j
   generalize gz s=es at *
   simp[o3.enc,w,i,f,hq,h,d,D,B,C,A,aa,ai.get_put,Y]
   refine J _ ?_ ?_ ?_
   ·refine an (au (au w i _) (by simp[ai.get_put,d,f]) _) ?_ _
    simp[aa,i,f,ai.get_put,d]
   ·simp[ai.get_put,h,d,C]
   ·simp[ai.get_put,h,d,D]
  ·by_cases u:e.code=0
   ·have J:=λH' K G F=>E a (b+1) c H' K G F (by simp at k;omega) (λo x y z hx U R=>v o x y z (by rw[vP,show sn e=false from by simp[sn,j,u]];simp only[if_true,jH,if_false];omega) (by rw[vP,show zV e=true from by simp[zV,j,u]];simp only[if_true,jH,if_false];omega) (by rw[vP,show zU e=false from by simp[zU,j,u]];simp only[if_true,jH,if_false];omega))
    clear E v k
    obtain⟨⟨N,h_2,M⟩,S,T⟩:=e
    simp only at j u
    subst u
    generalize gz s=es at *
    simp[o3.enc,w,i,f,hq,h,d,D,B,C,A,aa,ai.get_put,Z,j]
    refine J _ ?_ ?_ ?_
    ·refine an (au (au w i _) (by simp[ai.get_put,d,f]) _) ?_ _
     simp[aa,i,f,ai.get_put,d]
    ·simp[ai.get_put,h,d,C]
    ·simp[ai.get_put,h,d,D]
   ·have J:=λH' K G F=>E a b (c+1) H' K G F (by simp at k;omega) (λo x y z hx U R=>v o x y z (by rw[vP,show sn e=false from by simp[sn,j,u]];simp only[if_true,jH,if_false];omega) (by rw[vP,show zV e=false from by simp[zV,j,u]];simp only[if_true,jH,if_false];omega) (by rw[vP,show zU e=true from by simp[zU,j,u]];simp only[if_true,jH,if_false];omega))
    clear E v k
    obtain⟨⟨N,h_2,M⟩,S,T⟩:=e
    simp only at j u
    generalize gz s=es at *
    simp[o3.enc,w,i,f,hq,h,d,D,B,C,A,aa,ai.get_put,ec,j,u]
    refine J _ ?_ ?_ ?_
    ·refine an (au (au w i _) (by simp[ai.get_put,d,f]) _) ?_ _
     simp[aa,i,f,ai.get_put,d]
    ·simp[ai.get_put,h,d,C]
    ·simp[ai.get_put,h,d,D]
def C7(a:List o3)(n:Nat):AV := .agg [aI (a.countP sn),aI (a.countP zV),aI (a.countP zU),aI ((n:Int) - a.countP sn - a.countP zV - a.countP zU)]
def Kz(us:List Clear)(qs:List aC)(gr:Int)(l:List (cB × AV))(v1:UInt8)(v2:UInt32):AV:=
 if (An us qs gr l).isSome=true/\v1<=15 then .tup [C7 (kS (l.filter (dY ⟨v1,v2⟩))) (l.filter (dY ⟨v1,v2⟩)).length,aI 0] else .tup [.agg [aI 0,aI 0,aI 0,aI 0],aI 8]
theorem UI(f:cB × AV->Bool)(b : ∀p,f (BL p)=f p) : ∀(l:List (cB × AV)),((l.map BL).filter f).length=(l.filter f).length
 | []=>rfl
 | p :: l=>by
  have a:=UI f b l
  rw[p6,o4,o4,b p]
  split
  ·simp[a]
  ·exact a
section
variable{xu xq:AV}{us:List Clear}{qs:List aC}{gr:Int}(hu:Sl 3 (cW us) xu)(hq:Sl 5 (cN qs) xq)(hul:us.length<1000000)(hql:qs.length<1000000){l:List (cB × AV)}{x1:AV}(hx:Sl 24 (bh l) x1)(hall : ∀p∈l,Ba p)(hlen:l.length<=1000)
include hu hq hul hql hx hall hlen
theorem Tz(v1:UInt8)(v2:UInt32):aF env 7 [.agg [xu,xq,aI gr],x1,.agg [a8 v1,aw v2]]=some (Kz us qs gr l v1 v2):=by
 refine P2 (fn:=Tryz.f7) (c:=E0) (by kernel_rfl) (by kernel_rfl) (by kernel_rfl) (by kernel_rfl) (by kernel_rfl) ?_
 refine EV _ _ _ _ _ λg=>?_
 obtain⟨A,u,d⟩:=Tt (gr:=gr) hu hq hul hql hx hall v1 v2
 unfold Kz
 unfold PV at d
 cases z:An us qs gr l with
 | none=>
  rw[z]at d
  subst d
  simp[af,ah,ad,ae,aa, *,pO,hu.r,hq.r,hx.r,u]
 | some b=>
  rw[z]at d
  simp only at d
  by_cases i:v1<=15
  ·simp only[i,if_true]at d
   obtain⟨x,j,rfl⟩:=d
   have o : ∀p∈(l.map BL).filter (dY ⟨v1,v2⟩),p.2.one=true:=by
    intro p hp
    obtain⟨q,t,rfl⟩:=r8.1 (Fl.1 hp).1
    exact Ue (E4 (hall q t).1)
   have f:((l.map BL).filter (dY ⟨v1,v2⟩)).length<=1000:=uA (Im ..) (by simpa using hlen)
   have e:=Kw (dY ⟨v1,v2⟩) (λp=>rfl) l
   have k:=UI (dY ⟨v1,v2⟩) (λp=>rfl) l
   have m:(kS (l.filter (dY ⟨v1,v2⟩))).length<=1000:=by
    rw[<-e]
    exact uA (NM ..) f
   simp[af,ah,ad,ae,aa, *,pO,hu.r,hq.r,hx.r,j.r,u]
   generalize kS (l.filter (dY ⟨v1,v2⟩))=en at *
   refine It (by kernel_rfl) (I1 (Iy j o f _)) ?_
   rw[e]
   have h:(bh ((l.map BL).filter (dY ⟨v1,v2⟩))).length=(l.filter (dY ⟨v1,v2⟩)).length:=by rw[cP,k]
   refine MW j (by rw[h];omega) (n:=((l.map BL).filter (dY ⟨v1,v2⟩)).length) rfl rfl en 0 0 0 _ ?_ ?_ ?_ (by simpa using m) (λH' a b c y w v=>?_)
   ·exact an (by simp(maxDischargeDepth:=12) [ai.get_put,an,aj,Fr.nil,au,af,ah,ad,ae,ao,ak,aa, *]) rfl _
   ·simp[keyed,ai.get,fh]
   ·simp[keyed,ai.get,fh]
   ·simp at y w v
    subst y w v
    rw[h]
    simp[i,C7]
  ·simp only[i,if_false]at d
   subst d
   simp[af,ah,ad,ae,aa, *,pO,hu.r,hq.r,hx.r,u,i]
end
end Go.Proofs.YtdbiffjdomokfaaGreat
