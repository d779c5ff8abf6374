/-
  The document's answers on ids, runes and operations. No statement of a seat is proved here.
-/
import Derived.Test.YtmkmimgokagimaaGreatMLeDoc7
import Derived.Test.YtmkmimgokagimaaGreatMLeTwin
set_option linter.unusedVariables false
set_option linter.unusedSimpArgs false
set_option linter.unusedSectionVars false
set_option linter.unnecessarySimpa false
set_option maxRecDepth 1000000
namespace Go.Proofs.YtmkmimgokagimaaGreat
open Go.Ab
attribute [local simp] aW aJ aH aV aU cr ld bf aQ aT cz cw bI bg aC bH gh
@[simp] theorem yS(a:UInt8)(b:UInt32)(n:UInt8):aF env 93 [.agg [a8 a,au b,a8 n]]=some (aB (gU ⟨a,b,n⟩)):=by
 refine aG rfl (by kernel_rfl) (tS _ _ _ λg=>?_)
 simp[af,ah,ad,ae,aa, *,nk,gU]
 repeat' ((first | refine iK (λh=>?_) (λh=>?_) | refine fQ (λh=>?_) (λh=>?_) | refine fR (λh=>?_) (λh=>?_) | refine fO (λh=>?_) (λh=>?_) | refine fP (λh=>?_) (λh=>?_))<;>(try simp only[decide_eq_true_eq,decide_eq_false_iff_not,dV,kp,bh,fe]at h)<;>(try simp[af,ah,ad,ae,aa, *]))
@[simp] theorem afW(a:UInt8)(b:UInt32)(n:UInt8)(k:Int):aF env 140 [.agg [a8 a,au b,a8 n,aI k]]=some (aB (D2 ⟨⟨a,b,n⟩,k⟩)):=by
 refine aG rfl (by kernel_rfl) (yJ _ _ _ λg=>?_)
 simp[af,ah,ad,ae,aa, *,sa,D2]
 repeat' ((first | refine iK (λh=>?_) (λh=>?_) | refine fQ (λh=>?_) (λh=>?_) | refine fR (λh=>?_) (λh=>?_) | refine fO (λh=>?_) (λh=>?_) | refine fP (λh=>?_) (λh=>?_))<;>(try simp only[decide_eq_true_eq,decide_eq_false_iff_not,dV,kp,bh,fe]at h)<;>(try simp[af,ah,ad,ae,aa, *]))
@[simp] theorem Zj(a:UInt8)(b:UInt32)(n:UInt8)(k m:Int):aF env 138 [.agg [a8 a,au b,a8 n,aI k,aI m]]=some (aB (eP ⟨⟨⟨a,b,n⟩,k⟩,m⟩)):=by
 refine aG rfl (by kernel_rfl) (uY _ _ _ λg=>?_)
 cases d:D2 ⟨⟨a,b,n⟩,k⟩ with
 | false=>simp[af,ah,ad,ae,aa, *,eZ,eP]
 | true=>
  have c:=I3 d
  simp only at c
  by_cases f:1<=m
  ·by_cases i:m<=64
   ·have j:=IntWalk.i64_in (1099511627777 - m) (by omega)
    have e:decide (k+m - 1<=1099511627776)=decide (k<=1099511627777 - m):=by
     by_cases h:k<=1099511627777 - m
     ·rw[decide_eq_true h,decide_eq_true (by omega)]
     ·rw[decide_eq_false h,decide_eq_false (by omega)]
    simp[af,ah,ad,ae,aa, *,eZ,eP]
   ·simp[af,ah,ad,ae,aa, *,eZ,eP]
  ·simp[af,ah,ad,ae,aa, *,eZ,eP]
@[simp] theorem adF(a:UInt8)(b:UInt32)(n:UInt8)(k:Int):aF env 139 [.agg [a8 a,au b,a8 n,aI k]]=some (aB (gf ⟨⟨a,b,n⟩,k⟩)):=by
 refine aG rfl (by kernel_rfl) (xD _ _ _ λg=>?_)
 simp[af,ah,ad,ae,aa, *,qI,fJ,bU,gf]
@[simp] theorem ahf(n:Int):aF env 194 [aI n]=some (aB (yO n)):=by
 refine aG rfl (by kernel_rfl) (z3 _ _ _ λg=>?_)
 have e:yO n=(decide (0<=n)&&(decide (n<=1114111)&&(decide (n<55296)||decide (57343<n)))):=by
  unfold yO
  rw[Fo]
  simp only[fe,bh,decide_eq_true_eq]
  omega
 rw[e]
 simp[af,ah,ad,ae,aa, *,sK]
 repeat' ((first | refine iK (λh=>?_) (λh=>?_) | refine fQ (λh=>?_) (λh=>?_) | refine fR (λh=>?_) (λh=>?_) | refine fO (λh=>?_) (λh=>?_) | refine fP (λh=>?_) (λh=>?_))<;>(try simp only[decide_eq_true_eq,decide_eq_false_iff_not,dV,kp,bh,fe]at h)<;>(try simp[af,ah,ad,ae,aa, *]))
theorem J2{l:List Int}{x0:AV}(d:Sl 1 (rows l) x0)(u:l.length<4611686018427387904)(p : ∀a∈l, -2147483648<=a/\a<=2147483647){Q:AV->ai->Prop}{H:ai} :
 ∀(s:List Int)(k:Nat)(i:Int),l.drop k=s->k<=l.length->i=k->(∀y,y=aI (bad (s.all oY))->Q y H) ->
 bN env Tryz.f141 0 gT [(3,aI i),(0,x0)] H Q:=by
 intro s
 induction s with
 | nil=>
  rintro k i hs hk rfl hQ
  obtain rfl:=drop_nil hs hk
  refine oa _ _ _ _ λg=>?_
  simp[af,ah,ad,ae,aa, *,fa,d.r]
  all_goals exact hQ _ rfl
 | cons a s j=>
  rintro k i hs hk rfl hQ
  obtain⟨q,n,f,o⟩:=drop_cons hs
  have t:=p a (by rw[<-n];exact lY _)
  refine oa _ _ _ _ λg=>?_
  have v:=IntWalk.i64_in ((k:Int)+1) (by omega)
  have w:=IntWalk.i64_in a (by omega)
  have c:oY a=(decide (a = -1)||yO a):=by simp[oY,yO,Bool.or_assoc]
  by_cases h:a = -1
  ·subst h
   have b : ∀y,y=aI (bad (s.all oY))->Q y H:=λy e=>hQ y (by rw[e];simp[oY])
   clear hQ
   simp[af,ah,ad,ae,aa, *,fa,d.r,d.idx,aR]
   exact j (k+1) _ f (by omega) (by simp) b
  ·cases m:yO a with
   | true=>
    have b : ∀y,y=aI (bad (s.all oY))->Q y H:=λy e=>hQ y (by rw[e];simp[c,m])
    clear hQ c
    simp[af,ah,ad,ae,aa, *,fa,d.r,d.idx,aR]
    exact j (k+1) _ f (by omega) (by simp) b
   | false=>
    have b : ∀y,y=aI 8->Q y H:=λy e=>hQ y (by rw[e];simp[c,m,h])
    clear hQ c
    simp[af,ah,ad,ae,aa, *,fa,d.r,d.idx,aR]
    all_goals exact b _ rfl
theorem IG{l:List Int}{x:AV}(c:Sl 1 (rows l) x)(d:l.length<4611686018427387904)(f : ∀a∈l, -2147483648<=a/\a<=2147483647):aF env 141 [x]=some (aI (Bg l)):=by
 refine aG rfl (by kernel_rfl) (wR _ _ _ λg=>?_)
 by_cases b:64<l.length
 ·have:(64:Int)<l.length:=by omega
  simp[af,ah,ad,ae,aa, *,lV,Bg,c.r]
 ·have : ¬(64:Int)<l.length:=by omega
  have e:Bg l=bad (l.all oY):=by unfold Bg bad;rw[if_neg b]
  simp[af,ah,ad,ae,aa, *,lV,c.r]
  exact J2 c d f l 0 _ rfl (by omega) rfl (λy e=>by simp[e])
theorem Wu(m:UInt8)(t:UInt8)(n:UInt32)(q:UInt8)(h:Int)(p:UInt8)(o:UInt32)(u:UInt8)(v:Int)(j:Int)(e:UInt8)(c:UInt32)(b:UInt8)(d:Int)(f:UInt8)(i:UInt32){x:AV}{l:List Int}(k:Sl 1 (rows l) x)(N:l.length<2000000)(I : ∀a∈l, -2147483648<=a/\a<=2147483647):aF env 73 [.agg [a8 m,a8 t,au n,a8 q,aI h,a8 p,au o,a8 u,aI v,aI j,a8 e,au c,a8 b,aI d,a8 f,au i,x]]=some (aB (m0 (⟨m,⟨t,n,q⟩,h,⟨⟨⟨p,o,u⟩,v⟩,j⟩,⟨⟨e,c,b⟩,d⟩,⟨f,i⟩,l⟩:aK))):=by
 refine aG rfl (by kernel_rfl) (yF _ _ _ λg=>?_)
 have L:=IG k (by omega) I
 have M:=A2 l
 unfold m0
 cases c1:gU ⟨t,n,q⟩ with
 | false=>simp[af,ah,ad,ae,aa, *,aX,k.r]
 | true=>
 rcases Ds h 1 with E | c2
 ·have c2 : ¬1<=h:=by omega
  simp[af,ah,ad,ae,aa, *,aX,k.r]
 have E : ¬h<1:=by omega
 rcases Ds h 16777216 with c3 | F
 rotate_left
 ·have c3 : ¬h<16777216:=by omega
  simp[af,ah,ad,ae,aa, *,aX,k.r]
 have F : ¬16777216<=h:=by omega
 cases c4:eP ⟨⟨⟨p,o,u⟩,v⟩,j⟩ with
 | false=>simp[af,ah,ad,ae,aa, *,aX,k.r]
 | true=>
 by_cases k1:m=1
 ·subst k1
  unfold BV
  simp only[GX,if_true]
  cases C:vQ (⟨f,i⟩:jy) with
  | false=>
   unfold vQ at C
   simp[af,ah,ad,ae,aa, *,aX,k.r,fJ,bU]
  | true=>
   unfold vQ at C
   cases H:CA ⟨p,o,u⟩ ⟨t,n,q⟩ with
   | false=>
    unfold CA at H
    cases y:gf (⟨⟨e,c,b⟩,d⟩:bV) with
    | false=>cases G:D2 (⟨⟨e,c,b⟩,d⟩:bV)<;>simp[af,ah,ad,ae,aa, *,aX,k.r,fJ,bU]
    | true=>simp[af,ah,ad,ae,aa, *,aX,k.r,fJ,bU]
   | true=>
    unfold CA at H
    by_cases O:(l.length:Int)=j
    ·cases y:gf (⟨⟨e,c,b⟩,d⟩:bV) with
     | false=>cases G:D2 (⟨⟨e,c,b⟩,d⟩:bV)<;>simp[af,ah,ad,ae,aa, *,aX,k.r,fJ,bU]
     | true=>simp[af,ah,ad,ae,aa, *,aX,k.r,fJ,bU]
    ·cases y:gf (⟨⟨e,c,b⟩,d⟩:bV) with
     | false=>cases G:D2 (⟨⟨e,c,b⟩,d⟩:bV)<;>simp[af,ah,ad,ae,aa, *,aX,k.r,fJ,bU]
     | true=>simp[af,ah,ad,ae,aa, *,aX,k.r,fJ,bU]
 ·by_cases w:yi (⟨m,⟨t,n,q⟩,h,⟨⟨⟨p,o,u⟩,v⟩,j⟩,⟨⟨e,c,b⟩,d⟩,⟨f,i⟩,l⟩:aK)=true
  ·have A:=w
   simp only[yi,bh,decide_eq_true_eq]at A
   obtain⟨y,z⟩:=A
   subst z
   unfold BV
   by_cases k2:m=2
   ·subst k2
    simp only[MU,if_true]
    cases C:vQ (⟨f,i⟩:jy) with
    | false=>
     unfold vQ at C
     simp[af,ah,ad,ae,aa, *,aX,k.r,fJ,bU]
    | true=>
     unfold vQ at C
     simp[af,ah,ad,ae,aa, *,aX,k.r,fJ,bU]
   ·by_cases k3:m=3
    ·subst k3
     simp only[J1,if_true]
     simp[af,ah,ad,ae,aa, *,aX,k.r,fJ,bU]
    ·simp[af,ah,ad,ae,aa, *,aX,k.r,fJ,bU]
  ·have K:BV (⟨m,⟨t,n,q⟩,h,⟨⟨⟨p,o,u⟩,v⟩,j⟩,⟨⟨e,c,b⟩,d⟩,⟨f,i⟩,l⟩:aK)=false:=by
    have D:yi (⟨m,⟨t,n,q⟩,h,⟨⟨⟨p,o,u⟩,v⟩,j⟩,⟨⟨e,c,b⟩,d⟩,⟨f,i⟩,l⟩:aK)=false:=by simpa using w
    unfold BV MU J1
    rw[D]
    simp[k1]
   simp only[yi,bh,decide_eq_true_eq,not_and]at w
   cases y:gf (⟨⟨e,c,b⟩,d⟩:bV) with
   | false=>
    clear w
    simp[af,ah,ad,ae,aa, *,aX,k.r,fJ,bU]
   | true=>
    have z:0<l.length:=Fu.2 (w y)
    have J : ¬l=[]:=w y
    clear w
    simp[af,ah,ad,ae,aa, *,aX,k.r,fJ,bU]
end Go.Proofs.YtmkmimgokagimaaGreat
namespace Go.Proofs.YtmkmimgokagimaaGreat
open Go.Ab
attribute [local simp] aW aJ cr ld
@[simp] theorem ahd(q:ax):aF env 179 [.agg [a8 q.lv,au q.cats,aI q.opens,aI q.ops,aI q.cells]]=some (aB (DN q)):=by
 refine aG rfl (by kernel_rfl) (yH _ _ _ λg=>?_)
 simp[af,ah,ad,ae,aa, *,rY]
 repeat' ((first | refine iK (λh=>?_) (λh=>?_) | refine fQ (λh=>?_) (λh=>?_) | refine fR (λh=>?_) (λh=>?_) | refine fO (λh=>?_) (λh=>?_) | refine fP (λh=>?_) (λh=>?_))<;>(try simp only[decide_eq_true_eq,decide_eq_false_iff_not,dV,kp,bh,fe]at h)<;>(try simp[af,ah,ad,ae,aa, *,DN]))
def M5(b:UInt32)(n:Nat):Bool:=decide ((b >>> UInt32.ofNat n) % 2=1)
@[simp] theorem ahT(a:UInt8)(b:UInt32)(n:Nat)(e:n<32):aF env 201 [.agg [a8 a,au b],aI n]=some (aB (M5 b n)):=by
 refine aG rfl (by kernel_rfl) (yL _ _ _ _ λg=>?_)
 have c:(n:Int)<=4294967296:=by omega
 have d:(n:Int)<32:=by omega
 simp[af,ah,ad,ae,aa, *,sd,M5]
def rB(b d:UInt32):Nat->Nat->Bool
 | 0,_=>true
 | m+1,n => !(M5 b n && !M5 d n)&&rB b d m (n+1)
theorem Rl{a c:UInt8}{b d:UInt32}{r1 r2:Ref}{Q:AV->ai->Prop} : ∀(m n:Nat)(i:Int)(H:ai),n+m=32->i=n->Fr H->H.get r1=some ⟨2,[.agg [a8 a,au b]],false,false⟩->H.get r2=some ⟨2,[.agg [a8 c,au d]],false,false⟩ ->
 (∀y H',y=aB (rB b d m n&&decide (a<=c))->Q y H') ->
 bN env Tryz.f144 0 jj [(5,aI i),(3,.ptr r2 0 0),(2,.ptr r1 0 0)] H Q:=by
 intro m
 induction m with
 | zero=>
  rintro n i H hn rfl hF h1 h2 hQ
  obtain rfl:n=32:=by omega
  refine po _ _ _ _ _ λg=>?_
  simp[af,ah,ad,ae,aa, *,lW]
  all_goals (first | exact hQ _ _ rfl | exact hQ _ _ (by simp[*,rB]))
 | succ m o=>
  rintro n i H hn rfl hF h1 h2 hQ
  have p:n<32:=by omega
  have l:(n:Int)<32:=by omega
  refine po _ _ _ _ _ λg=>?_
  simp[af,ah,ad,ae,aa, *,lW]
  have e:=IntWalk.i64_in ((n:Int)+1) (by omega)
  have f:=o (n+1) _ H (by omega) rfl hF h1 h2
  cases j:M5 b n<;>cases k:M5 d n
  ·simp[*];exact f λy H' h=>hQ y H' (by simp[h,rB,j,k])
  ·simp[*];exact f λy H' h=>hQ y H' (by simp[h,rB,j,k])
  ·simp[*];exact hQ _ _ (by simp[rB,j,k])
  ·simp[*];exact f λy H' h=>hQ y H' (by simp[h,rB,j,k])
theorem Vq(b:UInt32)(n:Nat)(c:n<32):M5 b n=b.toBitVec.getLsbD n:=by
 unfold M5
 have a:((b >>> UInt32.ofNat n) % 2=1)↔((b >>> UInt32.ofNat n) % 2).toNat=1:=by rw[<-FO];rfl
 rw[Fo,decide_eq_true_eq,a,UInt32.toNat_mod,UInt32.toNat_shiftRight,UInt32.toNat_ofNat',BitVec.getLsbD,Nat.testBit_eq_decide_div_mod_eq,Nat.shiftRight_eq_div_pow,decide_eq_true_eq]
 have:n % 2 ^ 32 % 32=n:=by omega
 rw[this]
 rfl
theorem Mg(b d:UInt32) : ∀(m n:Nat),n+m=32->(rB b d m n=true ↔ ∀k,n<=k->k<32->(b.toBitVec &&& ~~~d.toBitVec).getLsbD k=false):=by
 intro m
 induction m with
 | zero=>intro n i;simp only[rB,true_iff];intro k f c;omega
 | succ m g=>
  intro n i
  have a:n<32:=by omega
  simp only[rB,bh,g (n+1) (by omega),Vq _ _ a]
  constructor
  ·rintro⟨f,c⟩ k hk hk2
   by_cases e:k=n
   ·subst e
    simp only[Jw,Jv,hk2,decide_true,nx]
    revert f
    cases b.toBitVec.getLsbD k<;>cases d.toBitVec.getLsbD k<;>simp
   ·exact c k (by omega) hk2
  ·intro h
   refine⟨?_,λk f c=>h k (by omega) c⟩
   have:=h n (dc _) a
   simp only[Jw,Jv,a,decide_true,nx]at this
   revert this
   cases b.toBitVec.getLsbD n<;>cases d.toBitVec.getLsbD n<;>simp
theorem Mh(b d:UInt32):rB b d 32 0=decide (b &&& ~~~d=0):=by
 rw[Fo,Mg b d 32 0 (by omega),decide_eq_true_eq]
 constructor
 ·intro h
  apply UInt32.toBitVec_inj.1
  apply BitVec.eq_of_getLsbD_eq
  intro i a
  simpa using h i (by omega) a
 ·intro h k _ _
  have:=congrArg UInt32.toBitVec h
  simp only[NC,NB]at this
  rw[this];simp
theorem JT(a:UInt8)(b:UInt32)(c:UInt8)(d:UInt32):aF env 144 [.agg [a8 a,au b],.agg [a8 c,au d]]=some (aB (UO a b c d)):=by
 refine aG rfl (by kernel_rfl) (yN _ _ _ _ λg=>?_)
 simp[af,ah,ad,ae,aa, *,sg]
 exact Rl (a:=a) (b:=b) (c:=c) (d:=d) 32 0 _ _ rfl rfl (by simp(maxDischargeDepth:=12) [aq,aj,Fr.nil,aw,af,ah,ad,ae,ao,ak,aa, *]) (by simp(maxDischargeDepth:=12) [aq,aj,Fr.nil,aw,af,ah,ad,ae,ao,ak,aa, *]) (by simp(maxDischargeDepth:=12) [aq,aj,Fr.nil,aw,af,ah,ad,ae,ao,ak,aa, *]) λy H' e=>by simp[e,Mh,UO,Bool.and_comm]
attribute [local simp] JT
@[simp] theorem adE(a:UInt8)(b:UInt32)(c:UInt8)(d:UInt32):aF env 180 [.agg [a8 a,au b],.agg [a8 c,au d]]=some (aB (Hq a b c d)):=by
 refine aG rfl (by kernel_rfl) (wS _ _ _ _ λg=>?_)
 have i:=a.toNat_lt
 have k:=b.toNat_lt
 have j:=c.toNat_lt
 have m:=d.toNat_lt
 have f:IntKind.i64.wrap ((a.toNat:Int) * 4294967296)=(a.toNat:Int) * 4294967296:=IntWalk.i64_in _ (by omega)
 have e:IntKind.i64.wrap ((c.toNat:Int) * 4294967296)=(c.toNat:Int) * 4294967296:=IntWalk.i64_in _ (by omega)
 have h:IntKind.i64.wrap ((a.toNat:Int) * 4294967296+b.toNat)=(a.toNat:Int) * 4294967296+b.toNat:=IntWalk.i64_in _ (by omega)
 have l:IntKind.i64.wrap ((c.toNat:Int) * 4294967296+d.toNat)=(c.toNat:Int) * 4294967296+d.toNat:=IntWalk.i64_in _ (by omega)
 simp[af,ah,ad,ae,aa, *,pW,Hq]
 rw[Fo]
 simp only[fe,bh,decide_eq_true_eq,NM,UInt32.lt_iff_toNat_lt,<-Cd]
 omega
end Go.Proofs.YtmkmimgokagimaaGreat
namespace Go.Proofs.YtmkmimgokagimaaGreat
open Go.Ab
attribute [local simp] aW aJ cr ld
attribute [local simp] JT
def ae6(n:Int)(q:ax):Int:=IntKind.i64.wrap (IntKind.i64.wrap (n+q.opens)+IntKind.i64.wrap (4 * q.ops))
def Lz(n:Int)(l:List ax):Int:=l.foldl ae6 n
def Y1(n:Int)(q:ax):Int:=IntKind.i64.wrap (n+q.cells)
def BT(n:Int)(l:List ax):Int:=l.foldl Y1 n
theorem Oq(n:Int):BT n []=n:=id rfl
section
variable{xu xq:AV}{us:List Clear}{qs:List ax}{gr:Int}(hu:Sl 3 (bZ us) xu)(hq:Sl 5 (bS qs) xq)(hql:qs.length<4611686018427387904)(hul:us.length<4611686018427387904)
include hu hq hql hul
theorem Rh{r1:Ref}{Q:AV->ai->Prop} : ∀(s:List ax)(k:Nat)(i n:Int)(H:ai),qs.drop k=s->k<=qs.length->i=k ->
 Fr H->H.get r1=some ⟨3,[.agg [xu,xq,aI gr]],false,false⟩->(∀y H',y=aI (Lz n s)->Q y H') ->
 bN env Tryz.f181 0 jh [(4,aI i),(1,.ptr r1 0 0),(3,aI n)] H Q:=by
 intro s
 induction s with
 | nil=>
  rintro k i n H hs hk rfl hF hB hQ
  obtain rfl:=drop_nil hs hk
  refine pk _ _ _ _ _ λg=>?_
  simp[af,ah,ad,ae,aa, *,lT,hq.r]
  all_goals (first | exact hQ _ _ rfl | exact hQ _ _ (by simp[*]))
 | cons q s b=>
  rintro k i n H hs hk rfl hF hB hQ
  obtain⟨d,e,a,c⟩:=drop_cons hs
  refine pk _ _ _ _ _ λg=>?_
  simp[af,ah,ad,ae,aa, *,lT,hq.r,hq.idx,ax.enc,IntWalk.i64_in ((k:Int)+1) (by omega)]
  exact b (k+1) _ _ _ a (by omega) (by simp) hF hB hQ
@[simp] theorem adC:aF env 181 [.agg [xu,xq,aI gr]]=some (aI (Lz gr qs)):=by
 refine aG rfl (by kernel_rfl) (yI _ _ _ λg=>?_)
 simp[af,ah,ad,ae,aa, *,rZ,hu.r,hq.r]
 exact Rh (gr:=gr) hu hq hql hul qs 0 _ _ _ rfl (by omega) rfl (by simp(maxDischargeDepth:=12) [aq,aj,Fr.nil,aw,af,ah,ad,ae,ao,ak,aa, *]) (by simp(maxDischargeDepth:=12) [aq,aj,Fr.nil,aw,af,ah,ad,ae,ao,ak,aa, *]) λy H' e=>by simp[e]
theorem WC{r1:Ref}{Q:AV->ai->Prop} : ∀(s:List ax)(k:Nat)(i n:Int)(H:ai),qs.drop k=s->k<=qs.length->i=k ->
 Fr H->H.get r1=some ⟨3,[.agg [xu,xq,aI gr]],false,false⟩->(∀y H',y=aB (decide (Lz gr qs<=2048)&&decide (BT n s<=8192))->Q y H') ->
 bN env Tryz.f134 0 gA [(6,aI i),(1,.ptr r1 0 0),(5,aI n)] H Q:=by
 intro s
 induction s with
 | nil=>
  rintro k i n H hs hk rfl hF hB hQ
  obtain rfl:=drop_nil hs hk
  refine nC _ _ _ _ _ λg=>?_
  have:=adC (gr:=gr) hu hq hql hul
  simp[af,ah,ad,ae,aa, *,ko,hq.r,hu.r]
  repeat' ((first | refine iK (λh=>?_) (λh=>?_) | refine fQ (λh=>?_) (λh=>?_) | refine fR (λh=>?_) (λh=>?_) | refine fO (λh=>?_) (λh=>?_) | refine fP (λh=>?_) (λh=>?_))<;>(try simp only[decide_eq_true_eq,decide_eq_false_iff_not,dV,kp,bh,fe]at h)<;>(try simp[af,ah,ad,ae,aa, *,hq.r,hu.r]))
  all_goals (first | exact hQ _ _ rfl | exact hQ _ _ (by simp[*,Oq]))
 | cons q s c=>
  rintro k i n H hs hk rfl hF hB hQ
  obtain⟨d,e,a,b⟩:=drop_cons hs
  refine nC _ _ _ _ _ λg=>?_
  simp[af,ah,ad,ae,aa, *,ko,hq.r,hq.idx,ax.enc,IntWalk.i64_in ((k:Int)+1) (by omega)]
  exact c (k+1) _ _ _ a (by omega) (by simp) hF hB hQ
theorem Zq{r1:Ref}{Q:AV->ai->Prop} : ∀(s:List ax)(k:Nat)(i:Int)(H:ai),qs.drop k=s->k<=qs.length->i=k ->
 Fr H->H.get r1=some ⟨3,[.agg [xu,xq,aI gr]],false,false⟩->(∀y H',y=aB (yW (if k=0 then none else qs[k - 1]?) s&&(decide (Lz gr qs<=2048)&&decide (BT 0 qs<=8192)))->Q y H') ->
 bN env Tryz.f134 0 gR [(4,aI i),(1,.ptr r1 0 0)] H Q:=by
 intro s
 induction s with
 | nil=>
  rintro k i H hs hk rfl b c hQ
  obtain rfl:=drop_nil hs hk
  refine n8 _ _ _ _ λg=>?_
  simp[af,ah,ad,ae,aa, *,hY,hq.r]
  exact WC (gr:=gr) hu hq hql hul qs 0 _ _ _ rfl (by omega) rfl b c λy H' e=>hQ _ _ (by simp[e,yW])
 | cons q s m=>
  rintro k i H hs hk rfl b c hQ
  obtain⟨n,p,a,j⟩:=drop_cons hs
  have d:=m (k+1)
  refine n8 _ _ _ _ λg=>?_
  cases k with
  | zero=>
   have f:IntKind.i64.wrap 1=1:=rfl
   simp[af,ah,ad,ae,aa, *,hY,hq.r,hq.idx,ax.enc]
   repeat' ((first | refine iK (λh=>?_) (λh=>?_) | refine fQ (λh=>?_) (λh=>?_) | refine fR (λh=>?_) (λh=>?_) | refine fO (λh=>?_) (λh=>?_) | refine fP (λh=>?_) (λh=>?_))<;>(try simp only[decide_eq_true_eq,decide_eq_false_iff_not,dV,kp,bh,fe]at h)<;>(try simp[af,ah,ad,ae,aa, *,hq.r,hq.idx]))
   ·all_goals (first | exact hQ _ _ rfl | exact hQ _ _ (by simp[*,yW]))
   ·exact d _ _ a (by omega) rfl b c λy H' e=>hQ y H' (by simpa [*,yW] using e)
  | succ k=>
   have f:IntKind.i64.wrap ((k:Int)+1+1)=(k:Int)+1+1:=IntWalk.i64_in _ (by omega)
   have v:IntKind.i64.wrap (k:Int)=k:=IntWalk.i64_in _ (by omega)
   have z : ¬(k:Int)+1=0:=by omega
   have o:k<qs.length:=by omega
   have x:(k:Int)+1<qs.length:=by omega
   have u:(0:Int)<=k+1:=by omega
   have t:(0:Int)<(k:Int)+1:=by omega
   have w:(k:Int)<qs.length:=by omega
   have l:qs[k]?=some qs[k]:=fc o
   simp[af,ah,ad,ae,aa, *,hY,hq.r,hq.idx,ax.enc]
   repeat' ((first | refine iK (λh=>?_) (λh=>?_) | refine fQ (λh=>?_) (λh=>?_) | refine fR (λh=>?_) (λh=>?_) | refine fO (λh=>?_) (λh=>?_) | refine fP (λh=>?_) (λh=>?_))<;>(try simp only[decide_eq_true_eq,decide_eq_false_iff_not,dV,kp,bh,fe]at h)<;>(try simp[af,ah,ad,ae,aa, *,hq.r,hq.idx,ax.enc]))
   all_goals first
    | exact hQ _ _ (by simp[*,yW,CH])
    | exact d _ _ a (by omega) (by simp) b c λy H' e=>hQ y H' (by simpa [*,yW,CH] using e)
    | skip
theorem Zr{r1:Ref}{Q:AV->ai->Prop} : ∀(s:List Clear)(k:Nat)(i:Int)(H:ai),us.drop k=s->k<=us.length->i=k ->
 Fr H->H.get r1=some ⟨3,[.agg [xu,xq,aI gr]],false,false⟩->(∀y H',y=aB (s.all (λc=>oB c.lv c.cats c.ok)&&(yW none qs&&(decide (Lz gr qs<=2048)&&decide (BT 0 qs<=8192))))->Q y H') ->
 bN env Tryz.f134 0 gS [(3,aI i),(1,.ptr r1 0 0)] H Q:=by
 intro s
 induction s with
 | nil=>
  rintro k i H hs hk rfl hF hB hQ
  obtain rfl:=drop_nil hs hk
  refine n9 _ _ _ _ λg=>?_
  simp[af,ah,ad,ae,aa, *,kL,hu.r]
  exact Zq (gr:=gr) hu hq hql hul qs 0 _ _ rfl (by omega) rfl hF hB λy H' e=>hQ _ _ (by simp[e])
 | cons c s d=>
  rintro k i H hs hk rfl hF hB hQ
  obtain⟨f,j,a,b⟩:=drop_cons hs
  refine n9 _ _ _ _ λg=>?_
  simp[af,ah,ad,ae,aa, *,kL,hu.r,hu.idx,Clear.enc,IntWalk.i64_in ((k:Int)+1) (by omega)]
  repeat' ((first | refine iK (λh=>?_) (λh=>?_) | refine fQ (λh=>?_) (λh=>?_) | refine fR (λh=>?_) (λh=>?_) | refine fO (λh=>?_) (λh=>?_) | refine fP (λh=>?_) (λh=>?_))<;>(try simp only[decide_eq_true_eq,decide_eq_false_iff_not,dV,kp,bh,fe]at h)<;>(try simp[af,ah,ad,ae,aa, *,hu.r,IntWalk.i64_in ((k:Int)+1) (by omega)]))
  exact d (k+1) _ _ a (by omega) (by simp) hF hB λy H' e=>hQ y H' (by simpa [*] using e)
def GB(us:List Clear)(qs:List ax)(gr:Int):Bool:=
 (!decide (8<us.length)&&(!decide (8<qs.length)&&(!decide (gr<0) && !decide (64<gr))))&&(us.all (λc=>oB c.lv c.cats c.ok)&&(yW none qs&&(decide (Lz gr qs<=2048)&&decide (BT 0 qs<=8192))))
theorem Th:aF env 134 [.agg [xu,xq,aI gr]]=some (aB (GB us qs gr)):=by
 refine aG rfl (by kernel_rfl) (wO _ _ _ λg=>?_)
 have e8 (n:Nat):((8:Int)<(n:Int))↔8<n:=by omega
 simp[af,ah,ad,ae,aa, *,pT,hu.r,hq.r]
 repeat' ((first | refine iK (λh=>?_) (λh=>?_) | refine fQ (λh=>?_) (λh=>?_) | refine fR (λh=>?_) (λh=>?_) | refine fO (λh=>?_) (λh=>?_) | refine fP (λh=>?_) (λh=>?_))<;>(try simp only[decide_eq_true_eq,decide_eq_false_iff_not,dV,kp,bh,fe]at h)<;>(try simp[af,ah,ad,ae,aa, *,hu.r,hq.r,GB]))
 refine Zr (gr:=gr) hu hq hql hul us 0 _ _ rfl (by omega) rfl (by simp(maxDischargeDepth:=12) [aq,aj,Fr.nil,aw,af,ah,ad,ae,ao,ak,aa, *]) (by simp(maxDischargeDepth:=12) [aq,aj,Fr.nil,aw,af,ah,ad,ae,ao,ak,aa, *]) λy H' e=>?_
 simp[*,GB]
omit hu hq in
theorem TI : ∀ {l:List ax} {n:Int},(∀q∈l,DN q=true)->0<=n->n+1088 * l.length<=4611686018427387904->Lz n l=E1 n l:=by
 intro l
 induction l with
 | nil=>intro n _ f a;rfl
 | cons q l d=>
  intro n h f a
  have hq:=Fb (h q (jn ..))
  simp only[qZ]at a
  have c:IntKind.i64.wrap (4 * q.ops)=4 * q.ops:=IntWalk.i64_in _ (by omega)
  have b:IntKind.i64.wrap (n+q.opens)=n+q.opens:=IntWalk.i64_in _ (by omega)
  have e:IntKind.i64.wrap (n+q.opens+4 * q.ops)=n+q.opens+4 * q.ops:=IntWalk.i64_in _ (by omega)
  have:=d (n:=n+q.opens+4 * q.ops) (λx g=>h x (il _ g)) (by omega) (by omega)
  simp only[Lz,E1,vR,ae6,c,b,e]at this ⊢
  exact this
omit hu hq in
theorem Oo : ∀ {l:List ax} {n:Int},(∀q∈l,DN q=true)->0<=n->n+4096 * l.length<=4611686018427387904->BT n l=SZ n l:=by
 intro l
 induction l with
 | nil=>intro n _ d a;rfl
 | cons q l c=>
  intro n h d a
  have hq:=Fb (h q (jn ..))
  simp only[qZ]at a
  have b:IntKind.i64.wrap (n+q.cells)=n+q.cells:=IntWalk.i64_in _ (by omega)
  have:=c (n:=n+q.cells) (λx e=>h x (il _ e)) (by omega) (by omega)
  simp only[BT,SZ,vR,Y1,b]at this ⊢
  exact this
omit hu hq in
theorem Rm:GB us qs gr=tF us qs gr:=by
 rw[LW,GB]
 by_cases c:us.length<=8
 ·by_cases f:qs.length<=8
  ·by_cases d:0<=gr/\gr<=64
   ·cases i:yW none qs with
    | false=>simp
    | true=>
     have e:=LJ i
     rw[TI hql hul e d.1 (by omega),Oo hql hul e (by omega) (by omega)]
     have a : ¬8<us.length:=by omega
     have b : ¬8<qs.length:=by omega
     have h : ¬gr<0:=by omega
     have j : ¬64<gr:=by omega
     simp[c,f,d,a,b,h,j]
   ·have:(decide (0<=gr)&&decide (gr<=64))=false:=by simp;omega
    have g:(!decide (gr<0) && !decide (64<gr))=false:=by simp;omega
    simp[this,g]
  ·have b:8<qs.length:=by omega
   simp[f,b]
 ·have a:8<us.length:=by omega
  simp[c,a]
@[simp] theorem Wq:aF env 134 [.agg [xu,xq,aI gr]]=some (aB (tF us qs gr)):=by
 rw[Th hu hq hql hul,Rm hql hul]
@[simp] theorem PO(c:Int)(a:UInt8)(b:UInt32):aF env 158 [.agg [xu,xq,aI gr],aI c,.agg [a8 a,au b]]=some (aB (pa us c a b)):=by
 refine aG rfl (by kernel_rfl) (wP _ _ _ _ _ λg=>?_)
 by_cases d:0<=c/\c<us.length
 ·obtain⟨n,rfl⟩:=KN d.1
  have e:n<us.length:=by omega
  simp[af,ah,ad,ae,aa, *,lU,hu.r,hq.r,hu.idx,pa,Clear.enc]
  repeat' ((first | refine iK (λh=>?_) (λh=>?_) | refine fQ (λh=>?_) (λh=>?_) | refine fR (λh=>?_) (λh=>?_) | refine fO (λh=>?_) (λh=>?_) | refine fP (λh=>?_) (λh=>?_))<;>(try simp only[decide_eq_true_eq,decide_eq_false_iff_not,dV,kp,bh,fe]at h)<;>(try simp[af,ah,ad,ae,aa, *,hu.r,hq.r,hu.idx,pa,Clear.enc]))
 ·have f:0<=c ->¬c<us.length:=by omega
  simp[af,ah,ad,ae,aa, *,lU,hu.r,hq.r,hu.idx,pa,Clear.enc]
  repeat' ((first | refine iK (λh=>?_) (λh=>?_) | refine fQ (λh=>?_) (λh=>?_) | refine fR (λh=>?_) (λh=>?_) | refine fO (λh=>?_) (λh=>?_) | refine fP (λh=>?_) (λh=>?_))<;>(try simp only[decide_eq_true_eq,decide_eq_false_iff_not,dV,kp,bh,fe]at h)<;>(try simp[af,ah,ad,ae,aa, *,hu.r,hq.r,hu.idx,pa,Clear.enc]))
end
end Go.Proofs.YtmkmimgokagimaaGreat
namespace Go.Proofs.YtmkmimgokagimaaGreat
open Go.Ab
attribute [local simp] aW aJ aH aV aU cr ld bf aQ aT cz cw bI bg aC bH gh
theorem PJ(a:UInt8)(b:UInt32)(c:UInt8)(d:UInt32):aF env 144 [.agg [a8 a,au b],.agg [a8 c,au d]]=some (aB (tU ⟨a,b⟩ ⟨c,d⟩)):=JT a b c d
attribute [local simp] PJ
theorem To(c:UInt8)(b:UInt32)(d:UInt8)(a:Int)(j:Int)(i:UInt8)(h:UInt32)(f:UInt8)(k:Int)(n:eP (⟨⟨⟨c,b,d⟩,a⟩,j⟩:vE)=true):aF env 245 [.agg [a8 c,au b,a8 d,aI a,aI j],.agg [a8 i,au h,a8 f,aI k]]=some (aB (hasB (⟨⟨⟨c,b,d⟩,a⟩,j⟩:vE) (⟨⟨i,h,f⟩,k⟩:bV))):=by
 refine aG rfl (by kernel_rfl) (yB _ _ _ _ λg=>?_)
 have m:=gz n
 simp only at m
 have o:=IntWalk.i64_in (a+j) (by omega)
 have l:decide ((⟨c,b,d⟩:sj)=⟨i,h,f⟩)=(decide (c=i)&&decide (b=h)&&decide (d=f)):=by
  simp[zE]
 have e:hasB (⟨⟨⟨c,b,d⟩,a⟩,j⟩:vE) (⟨⟨i,h,f⟩,k⟩:bV)=((decide (c=i)&&decide (b=h)&&decide (d=f))&&(decide (a<=k)&&decide (k<a+j))):=by
  rw[<-l];simp only[hasB,n,nx]
 rw[e]
 clear e l m
 cases p:(decide (c=i)&&decide (b=h)&&decide (d=f)) with
 | false=>simp[af,ah,ad,ae,aa, *,kn,fJ,bU]
 | true=>
  by_cases c1:a<=k
  ·simp[af,ah,ad,ae,aa, *,kn,fJ,bU]
  ·simp[af,ah,ad,ae,aa, *,kn,fJ,bU]
theorem Pp{x0:AV}{Q:AV->ai->Prop}{l:List jy}(f:Sl 2 (kb l) x0)(v:l.length<4611686018427387904){a:UInt8}{b:UInt32}{r3:Ref}{H:ai}(x:H.get r3=some ⟨2,[.agg [a8 a,au b]],false,false⟩) :
 ∀(s:List jy)(k:Nat)(i:Int),l.drop k=s->k<=l.length->i=k->(∀y,y=aB (decide ((⟨a,b⟩:jy)∈s))->Q y H) ->
 bN env Tryz.f223 0 gN [(5,aI i),(3,.ptr r3 0 0),(0,x0)] H Q:=by
 intro s
 induction s with
 | nil=>
  rintro k i hs hk rfl hQ
  obtain rfl:=drop_nil hs hk
  refine nY _ _ _ _ _ λg=>?_
  simp[af,ah,ad,ae,aa, *,gZ,f.len]
  all_goals exact hQ _ (by simp)
 | cons t s p=>
  rintro k i hs hk rfl hQ
  obtain⟨t1,t2⟩:=t
  obtain⟨q,u,j,o⟩:=drop_cons hs
  refine nY _ _ _ _ _ λg=>?_
  have w:=IntWalk.i64_in ((k:Int)+1) (by omega)
  have d:((⟨a,b⟩:jy)=⟨t1,t2⟩)=((decide (t1=a)&&decide (t2=b))=true):=by
   rw[eq_iff_iff]
   simp only[jy.mk.injEq,bh,decide_eq_true_eq]
   exact⟨λh=>⟨h.1.symm,h.2.symm⟩,λh=>⟨h.1.symm,h.2.symm⟩⟩
  cases n:(decide (t1=a)&&decide (t2=b)) with
  | true=>
   rw[n]at d
   have c : ∀y,y=aB true->Q y H:=λy e=>hQ y (by rw[e,decide_eq_true (by rw[m6];exact .inl (by rw[d]))])
   clear d hQ
   simp[af,ah,ad,ae,aa, *,gZ,f.len,f.idx,kb,fJ,bU]
   all_goals exact c _ rfl
  | false=>
   rw[n]at d
   have m : ¬(⟨a,b⟩:jy)=⟨t1,t2⟩:=by rw[d];simp
   have c : ∀y,y=aB (decide ((⟨a,b⟩:jy)∈s))->Q y H:=λy e=>hQ y (by rw[e];exact congrArg aB (decide_eq_decide.2 ⟨il _,λh=>(m6.1 h).resolve_left m⟩))
   clear d hQ m
   simp[af,ah,ad,ae,aa, *,gZ,f.len,f.idx,kb,fJ,bU]
   exact p (k+1) _ j (by omega) (by simp) c
theorem PI{x:AV}{l:List jy}(c:Sl 2 (kb l) x)(d:l.length<4611686018427387904)(a:UInt8)(b:UInt32):aF env 223 [x,.agg [a8 a,au b]]=some (aB (decide (⟨a,b⟩∈l))):=by
 refine aG rfl (by kernel_rfl) (wL _ _ _ _ λg=>?_)
 simp[af,ah,ad,ae,aa, *,pO,c.r]
 exact Pp c d (a:=a) (b:=b) (by simp) l 0 _ rfl (by omega) rfl (λy e=>by simp[e])
def iw(l:List aK)(i:bV)(v:jy):List jy:=(l.filter λo=>jZ o i v).map (·.to)
theorem CF(o:aK)(l:List aK)(i:bV)(v:jy):iw (o :: l) i v=if jZ o i v then o.to :: iw l i v else iw l i v:=by
 unfold iw
 rw[FJ]
 split<;>simp_all
theorem Ke(l:List aK)(i:bV)(v:jy) : ∀out,vf out l i v=(iw l i v).foldl sn out:=by
 induction l with
 | nil=>intro out;rfl
 | cons o l a=>
  intro out
  show vf (if jZ o i v then sn out o.to else out) l i v=_
  rw[a,CF]
  split<;>rfl
theorem LI(l:List aK)(i:bV)(v:jy):(iw l i v).length<=l.length:=by
 unfold iw;rw[so];exact NJ _ _
theorem JW{l:List (aK × AV)}{x0:AV}(G:Sl 17 (cI l) x0)(U : ∀p∈l,HW p)(hsp : ∀p∈l,eP p.1.s=true)(hl:l.length<100000)(c:UInt8)(j:UInt32)(f:UInt8)(d:Int)(A:UInt8)(D:UInt32){r4 r5:Ref}{Q:AV->ai->Prop}
 (Y:r4.t=4) (hn5:r5.t=5) :
 ∀(s:List (aK × AV)) (k:Nat) (i:Int) (acc:List jy) (O:AV) (H:ai),l.drop k=s->k<=l.length->i=k->acc.length<=k->Fr H->H.get r4=some ⟨4,[.agg [a8 c,au j,a8 f,aI d]],false,false⟩->H.get r5=some ⟨2,[.agg [a8 A,au D]],false,false⟩->tP [47] 2 (kb acc) H O->(acc=[]->O=ct) ->
 (∀y H',tP [47] 2 (kb (acc++iw (opsOf s) (⟨⟨c,j,f⟩,d⟩:bV) ⟨A,D⟩)) H' y->(acc++iw (opsOf s) (⟨⟨c,j,f⟩,d⟩:bV) ⟨A,D⟩=[]->y=ct)->Q y H') ->
 bN env Tryz.f238 0 eH [(8,aI i),(0,x0),(7,O),(5,.ptr r5 0 0),(4,.ptr r4 0 0)] H Q:=by
 intro s
 induction s with
 | nil=>
  rintro k i acc O H hs hk rfl ha hF h4 h5 hO hN hQ
  obtain rfl:=drop_nil hs hk
  refine nB _ _ _ _ _ _ _ λg=>?_
  have J:=hQ O H (by simpa [opsOf,iw] using hO) (by simpa [opsOf,iw] using hN)
  clear hO hQ hN
  simp[af,ah,ad,ae,aa, *,cN,G.r]
  all_goals exact J
 | cons p s S=>
  rintro k i acc O H hs hk rfl ha hF h4 h5 hO hN hQ
  obtain⟨hlt,hg,M,hg'⟩:=drop_cons hs
  have hp:=U p (by rw[<-hg];exact lY _)
  have V:=hsp p (by rw[<-hg];exact lY _)
  obtain⟨⟨I,⟨N,K,R⟩,P,⟨⟨⟨F,E,C⟩,u⟩,m⟩,⟨⟨z,v,q⟩,w⟩,⟨a,b⟩,al⟩,x⟩:=p
  obtain⟨n,W⟩:=hp
  simp only at n W V
  have hh:=To F E C u m c j f d V
  have e3:=IntWalk.i64_in ((k:Int)+1) (by omega)
  have o:iw (opsOf (((⟨I,⟨N,K,R⟩,P,⟨⟨⟨F,E,C⟩,u⟩,m⟩,⟨⟨z,v,q⟩,w⟩,⟨a,b⟩,al⟩:aK),x) :: s)) (⟨⟨c,j,f⟩,d⟩:bV) ⟨A,D⟩=if jZ (⟨I,⟨N,K,R⟩,P,⟨⟨⟨F,E,C⟩,u⟩,m⟩,⟨⟨z,v,q⟩,w⟩,⟨a,b⟩,al⟩:aK) (⟨⟨c,j,f⟩,d⟩:bV) ⟨A,D⟩ then ⟨a,b⟩ :: iw (opsOf s) (⟨⟨c,j,f⟩,d⟩:bV) ⟨A,D⟩ else iw (opsOf s) (⟨⟨c,j,f⟩,d⟩:bV) ⟨A,D⟩:=CF _ _ _ _
  rw[o]at hQ
  clear o
  refine nB _ _ _ _ _ _ _ λg=>?_
  cases L:jZ (⟨I,⟨N,K,R⟩,P,⟨⟨⟨F,E,C⟩,u⟩,m⟩,⟨⟨z,v,q⟩,w⟩,⟨a,b⟩,al⟩:aK) (⟨⟨c,j,f⟩,d⟩:bV) ⟨A,D⟩ with
  | false=>
   rw[L,if_neg (by decide)]at hQ
   by_cases X:I=3
   ·subst X
    cases hb:hasB ⟨⟨⟨F,E,C⟩,u⟩,m⟩ (⟨⟨c,j,f⟩,d⟩:bV) with
    | false=>
     clear L
     simp[af,ah,ad,ae,aa, *,cN,G.r,G.idx,cI,zh,n.r]
     exact S (k+1) _ acc O _ M (by omega) (by simp) (by omega) hF h4 h5 hO hN hQ
    | true=>
     have hq:tU ⟨N,K⟩ ⟨A,D⟩=false:=by
      simp only[jZ,hb,decide_true,nx,Ku]at L;exact L
     clear L
     simp[af,ah,ad,ae,aa, *,cN,G.r,G.idx,cI,zh,n.r]
     exact S (k+1) _ acc O _ M (by omega) (by simp) (by omega) hF h4 h5 hO hN hQ
   ·clear L
    simp[af,ah,ad,ae,aa, *,cN,G.r,G.idx,cI,zh,n.r]
    exact S (k+1) _ acc O _ M (by omega) (by simp) (by omega) hF h4 h5 hO hN hQ
  | true=>
   rw[L,if_pos rfl]at hQ
   simp only[jZ,bh,decide_eq_true_eq,Ku]at L
   obtain⟨X,hb,hq⟩:=L
   subst X
   have J : ∀y H',tP [47] 2 (kb ((acc++[⟨a,b⟩])++iw (opsOf s) (⟨⟨c,j,f⟩,d⟩:bV) ⟨A,D⟩)) H' y->(((acc++[⟨a,b⟩])++iw (opsOf s) (⟨⟨c,j,f⟩,d⟩:bV) ⟨A,D⟩)=[]->y=ct)->Q y H':=λy H' h hn=>hQ y H' (by simpa using h) (λe=>by simp at e)
   clear hQ hN
   have T:=λx7' H'=>S (k+1) ((k:Int)+1) (acc++[⟨a,b⟩]) x7' H' M (by omega) (by simp) (by simp;omega)
   clear S
   have l4:(H.get r4).isSome=true:=by rw[h4];rfl
   have l5:(H.get r5).isSome=true:=by rw[h5];rfl
   rcases hO with ⟨rfl,hz⟩ | ⟨t,gg,ht,rfl,hrr⟩
   ·have hz':acc=[]:=by simpa using hz
    subst hz'
    have Z : ∀(x:AV)(H':ai),tP [47] 2 (kb [⟨a,b⟩]) H' x->tP [47] 2 (kb ([]++[⟨a,b⟩])) H' x:=λx H' h=>h
    simp[af,ah,ad,ae,aa, *,cN,G.r,G.idx,cI,zh,n.r]
    exact T _ _ (by simp(maxDischargeDepth:=12) [ai.get_put,aq,aj,Fr.nil,aw,af,ah,ad,ae,ao,ak,aa, *]) (by simp(maxDischargeDepth:=12) [ai.get_put,aq,aj,Fr.nil,aw,af,ah,ad,ae,ao,ak,aa, *]) (by simp(maxDischargeDepth:=12) [ai.get_put,aq,aj,Fr.nil,aw,af,ah,ad,ae,ao,ak,aa, *]) (Z _ _ (by simp[kb])) (λh=>by simp at h) J
   ·rw[uP]at ht
    subst ht
    have l6:(H.get ⟨0,47,gg,0⟩).isSome=true:=by rw[hrr];rfl
    have n4:r4≠⟨0,47,gg,0⟩:=by rintro rfl;simp at Y
    have n5:r5≠⟨0,47,gg,0⟩:=by rintro rfl;simp at hn5
    have f1:acc.length+1<=17592186044416:=by omega
    have f2:mY 2 8 acc.length true none (some ⟨2,kb acc,true,false⟩) (some [.agg [a8 a,au b]]):=by
     simp;omega
    simp[af,ah,ad,ae,aa, *,cN,G.r,G.idx,cI,zh,n.r]
    exact T _ _ (by simp(maxDischargeDepth:=12) [ai.get_put,aq,aj,Fr.nil,aw,af,ah,ad,ae,ao,ak,aa, *]) (by simp(maxDischargeDepth:=12) [ai.get_put,aq,aj,Fr.nil,aw,af,ah,ad,ae,ao,ak,aa, *]) (by simp(maxDischargeDepth:=12) [ai.get_put,aq,aj,Fr.nil,aw,af,ah,ad,ae,ao,ak,aa, *]) (by simp[kb]) (λh=>by simp at h) J
theorem QZ{l:List (aK × AV)}{x0:AV}(q:Sl 17 (cI l) x0)(f : ∀p∈l,HW p)(m : ∀p∈l,eP p.1.s=true)(u:l.length<100000)(c:UInt8)(b:UInt32)(a:UInt8)(d:Int)(i:UInt8)(j:UInt32) :
 aF env 238 [x0,.agg [a8 c,au b,a8 a,aI d],.agg [a8 i,au j]]=some (xR 2 (kb (iw (opsOf l) (⟨⟨c,b,a⟩,d⟩:bV) ⟨i,j⟩))):=by
 refine aG rfl (by kernel_rfl) (vH _ _ _ _ _ λg=>?_)
 simp[af,ah,ad,ae,aa, *,o5]
 refine JW q f m u c b a d i j (by rfl) (by rfl) l 0 _ [] _ _ rfl (by omega) rfl (by simp) (by simp(maxDischargeDepth:=12) [aq,aj,Fr.nil,aw,af,ah,ad,ae,ao,ak,aa, *]) (by simp) (by simp) (.inl ⟨rfl,rfl⟩) (λ_=>rfl) (λy H' h o=>?_)
 rw[vS]at h o
 rcases h with ⟨rfl,v⟩ | ⟨t,gg,w,rfl,k⟩
 ·rw[v];simp[xR]
 ·have n:kb (iw (opsOf l) (⟨⟨c,b,a⟩,d⟩:bV) ⟨i,j⟩)≠[]:=by
   intro e
   rw[Kg]at e
   cases o e
  rw[CL 2 n]
  rw[Mm]at *
  simp[k]
def Hz(out:List jy)(H:ai)(x:AV):Prop :=∃r c,x = .cL r 0 out.length c/\H.get r=some ⟨2,kb out,true,false⟩/\((c=some 1/\out.length=1 /\∃g,r=⟨0,13,g,0⟩)\/(c=none/\1<out.length /\∃g,r=⟨0,37,g,0⟩))
theorem Hz.cr{out:List jy}{H H':ai}{x:AV}(h:Hz out H x)(d : ∀r b,H.get r=some b->r.t≠36->H'.get r=some b):Hz out H' x:=by
 obtain⟨r,c,e,f,a⟩:=h
 refine⟨r,c,e,d r _ f ?_,a⟩
 rcases a with ⟨_,_,g,rfl⟩ | ⟨_,_,g,rfl⟩<;>simp
theorem TJ{all:List jy}{C:AV}(l:Sl 2 (kb all) C)(M:all.length<100000){Q:AV->ai->Prop} :
 ∀(s:List jy)(k:Nat)(i:Int)(out:List jy)(u:AV)(H:ai),all.drop k=s->k<=all.length->i=k->out.length<=k+1->Fr H->Hz out H u ->
 (∀y H',Hz (s.foldl sn out) H' y->Q y H') ->
 bN env Tryz.f224 0 gp [(9,aI i),(8,C),(7,u)] H Q:=by
 intro s
 induction s with
 | nil=>
  rintro k i out u H hs hk rfl ho hF o hQ
  obtain rfl:=drop_nil hs hk
  refine qp _ _ _ _ _ λg=>?_
  have d:=hQ u H o
  clear o hQ
  simp[af,ah,ad,ae,aa, *,gx,l.len]
  all_goals exact d
 | cons t s E=>
  rintro k i out u H hs hk rfl ho hF o hQ
  obtain⟨t1,t2⟩:=t
  obtain⟨J,L,z,w⟩:=drop_cons hs
  have O:=IntWalk.i64_in ((k:Int)+1) (by omega)
  have e:=λq m H'=>E (k+1) ((k:Int)+1) q m H' z (by omega) (by simp)
  clear E
  have I:bX (kb all) k 0 2 true=some (.agg [a8 t1,au t2]):=by simp[kb,w]
  rw[vR]at hQ
  have p:(kb out).length=out.length:=Mm out
  have v : ∀c:Option Nat,out.length<=c.getD out.length->aF env 223 [.bW 2 (kb out) c,.agg [a8 t1,au t2]]=some (aB (decide ((⟨t1,t2⟩:jy)∈out))):=λc j=>PI (.inr ⟨c,rfl,by rw[p];exact j⟩) (by omega) t1 t2
  obtain⟨r,c,rfl,D,j⟩:=o
  refine qp _ _ _ _ _ λg=>?_
  have K:out.length+1<=17592186044416:=by omega
  by_cases n:(⟨t1,t2⟩:jy)∈out
  ·have d : ∀y H',Hz (s.foldl sn out) H' y->Q y H':=λy H' h=>hQ y H' (by rw[sn,if_pos n];exact h)
   clear hQ
   have A:aF env 223 [.bW 2 (kb out) c,.agg [a8 t1,au t2]]=some (aB true):=by
    rw[v c (by rcases j with ⟨rfl,h,_⟩ | ⟨rfl,h,_⟩<;>simp[h]),decide_eq_true n]
   have a:=λH' h=>e out (.cL r 0 out.length c) H' (by omega) h
   clear v e n
   have o:Hz out H (.cL r 0 out.length c):=⟨r,c,rfl,D,j⟩
   simp[af,ah,ad,ae,aa, *,gx,l.r,l.idx]
   exact a _ hF o d
  ·have d : ∀y H',Hz (s.foldl sn (out++[⟨t1,t2⟩])) H' y->Q y H':=λy H' h=>hQ y H' (by rw[sn,if_neg n];exact h)
   clear hQ
   have A:aF env 223 [.bW 2 (kb out) c,.agg [a8 t1,au t2]]=some (aB false):=by
    rw[v c (by rcases j with ⟨rfl,h,_⟩ | ⟨rfl,h,_⟩<;>simp[h]),decide_eq_false n]
   clear v n
   have R:(H.get r).isSome=true:=by rw[D];rfl
   have a:=λm H'=>e (out++[⟨t1,t2⟩]) m H' (by simp;omega)
   clear e
   have f : ∀(g:Nat)(H':ai),H'.get ⟨0,37,g,0⟩=some ⟨2,kb out++[.agg [a8 t1,au t2]],true,false⟩->Hz (out++[⟨t1,t2⟩]) H' (.cL ⟨0,37,g,0⟩ 0 (out.length+1) none):=by
    intro g H' h
    refine⟨_,_,by simp,by rw[h,RK],.inr ⟨rfl,?_,g,rfl⟩⟩
    rcases j with ⟨_,h,_⟩ | ⟨_,h,_⟩<;>simp<;>omega
   rcases j with ⟨rfl,x,F,rfl⟩ | ⟨rfl,x,F,rfl⟩
   ·have P:1<out.length+1:=by omega
    have b:=f (H.gen 0 37)
    clear f
    have G:(kb out).length=1:=by rw[p,x]
    rw[x]at b
    simp[af,ah,ad,ae,aa, *,gx,l.r,l.idx]
    exact a _ _ (by simp(maxDischargeDepth:=12) [ai.get_put,aq,aj,Fr.nil,aw,af,ah,ad,ae,ao,ak,aa, *]) (b _ (by simp)) d
   ·have N:mY 2 8 out.length true none (some ⟨2,kb out,true,false⟩) (some [.agg [a8 t1,au t2]]):=by
     simp;omega
    have b:=f (H.gen 0 37)
    clear f
    simp[af,ah,ad,ae,aa, *,gx,l.r,l.idx]
    exact a _ _ (by simp(maxDischargeDepth:=12) [ai.get_put,aq,aj,Fr.nil,aw,af,ah,ad,ae,ao,ak,aa, *]) (b _ (by simp)) d
theorem Kd(l:List aK)(i:bV)(v:jy):(iw l i v).foldl sn [Np i]=pw l i v:=(Ke l i v _).symm
theorem adD{l:List (aK × AV)}{x0:AV}(v:Sl 17 (cI l) x0)(k : ∀p∈l,HW p)(t : ∀p∈l,eP p.1.s=true)(x:l.length<100000)(b:UInt8)(a:UInt32)(d:UInt8)(f:Int)(m:UInt8)(n:UInt32) :
 aF env 224 [x0,.agg [a8 b,au a,a8 d,aI f],.agg [a8 m,au n]]=some (.bW 2 (kb (pw (opsOf l) (⟨⟨b,a,d⟩,f⟩:bV) ⟨m,n⟩)) (Hl (pw (opsOf l) (⟨⟨b,a,d⟩,f⟩:bV) ⟨m,n⟩))):=by
 refine aG rfl (by kernel_rfl) (zY _ _ _ _ _ λg=>?_)
 have D:=QZ v k t x b a d f m n
 have u:=LI (opsOf l) (⟨⟨b,a,d⟩,f⟩:bV) ⟨m,n⟩
 rw[show(opsOf l).length=l.length from so _]at u
 have o:=A5 2 (kb (iw (opsOf l) (⟨⟨b,a,d⟩,f⟩:bV) ⟨m,n⟩))
 rw[<-Kd]
 have i:=λ(A:AV)(H:ai)(Q:AV->ai->Prop)=>TJ o (by omega) (Q:=Q) (iw (opsOf l) (⟨⟨b,a,d⟩,f⟩:bV) ⟨m,n⟩) 0 0 [Np (⟨⟨b,a,d⟩,f⟩:bV)] A H rfl (by omega) rfl (by simp)
 clear t k
 have q : ∀H:ai,H.get ⟨0,13,0,0⟩=some ⟨2,[.agg [a8 b,au a]],true,false⟩->Hz [Np (⟨⟨b,a,d⟩,f⟩:bV)] H (.cL ⟨0,13,0,0⟩ 0 1 (some 1)):=λH h=>⟨_,_,rfl,h,.inl ⟨rfl,rfl,0,rfl⟩⟩
 generalize iw (opsOf l) (⟨⟨b,a,d⟩,f⟩:bV) ⟨m,n⟩=al at *
 generalize xR 2 (kb al)=xo at *
 have j : ∀y H',Hz (al.foldl sn [Np (⟨⟨b,a,d⟩,f⟩:bV)]) H' y->view H'.get 8 y=some (.bW 2 (kb (al.foldl sn [Np (⟨⟨b,a,d⟩,f⟩:bV)])) (Hl (al.foldl sn [Np (⟨⟨b,a,d⟩,f⟩:bV)]))):=by
  intro y H' h
  obtain⟨r,c,rfl,z,w⟩:=h
  have e:c=Hl (al.foldl sn [Np (⟨⟨b,a,d⟩,f⟩:bV)]):=by
   rcases w with ⟨rfl,h,_⟩ | ⟨rfl,h,_⟩
   ·rw[Hl,if_pos h]
   ·rw[Hl,if_neg (by omega)]
  rw[<-e]
  simp[z]
 generalize (al.foldl sn [Np (⟨⟨b,a,d⟩,f⟩:bV)])=fin at i j ⊢
 rcases o with ⟨rfl,C⟩ | ⟨c,rfl,w⟩
 ·simp[af,ah,ad,ae,aa, *,nw,v.r]
  exact i _ _ _ (by simp(maxDischargeDepth:=12) [ai.get_put,aq,aj,Fr.nil,aw,af,ah,ad,ae,ao,ak,aa, *]) (q _ (by simp)) j
 ·simp[af,ah,ad,ae,aa, *,nw,v.r]
  exact i _ _ _ (by simp(maxDischargeDepth:=12) [ai.get_put,aq,aj,Fr.nil,aw,af,ah,ad,ae,ao,ak,aa, *]) (q _ (by simp)) j
def eV(s:vE):Nat->Nat->List bV
 | 0,_=>[]
 | n+1,k=>⟨s.f.h,s.f.n+(k:Int)⟩ :: eV s n (k+1)
def Va(i:bV):AV := .agg [a8 i.h.lv,au i.h.cats,a8 i.h.num,aI i.n]
def ma(l:List bV):List AV:=l.map Va
@[simp] theorem yc(l:List bV):(ma l).length=l.length:=by simp[ma]
theorem EG(s:vE) : ∀n k,(eV s n k).length=n:=by
 intro n
 induction n with
 | zero=>intro k;rfl
 | succ n a=>intro k;simp[eV,a]
theorem Rr(c:UInt8)(f:UInt32)(d:UInt8)(b:Int)(j:Int)(M : -4611686018427387904<b)(R:b<4611686018427387904)(N:j<100000){r1:Ref}(A:r1.t=1){Q:AV->ai->Prop} :
 ∀(n k:Nat)(i:Int)(a:List bV)(u:AV)(H:ai),(k:Int)+n=j->i=k->a.length=k->Fr H->H.get r1=some ⟨5,[.agg [a8 c,au f,a8 d,aI b,aI j]],false,false⟩->tP [22] 4 (ma a) H u->(a=[]->u=ct) ->
 (∀y H',tP [22] 4 (ma (a++eV (⟨⟨⟨c,f,d⟩,b⟩,j⟩:vE) n k)) H' y->(a++eV (⟨⟨⟨c,f,d⟩,b⟩,j⟩:vE) n k=[]->y=ct)->Q y H') ->
 bN env Tryz.f196 0 ji [(4,aI i),(1,.ptr r1 0 0),(3,u)] H Q:=by
 intro n
 induction n with
 | zero=>
  rintro k i a u H hk rfl ha hF hB hO hN hQ
  refine pn _ _ _ _ _ λg=>?_
  have x : ¬(k:Int)<j:=by omega
  have p:=hQ u H (by simpa [eV] using hO) (by simpa [eV] using hN)
  clear hQ hO hN
  simp[af,ah,ad,ae,aa, *,jm]
  all_goals exact p
 | succ n E=>
  rintro k i a u H hk rfl ha hF hB hO hN hQ
  refine pn _ _ _ _ _ λg=>?_
  have x:(k:Int)<j:=by omega
  have P:=IntWalk.i64_in ((k:Int)+1) (by omega)
  have S:=IntWalk.i64_in (b+(k:Int)) (by omega)
  have v:=λC H'=>E (k+1) ((k:Int)+1) (a++[⟨⟨c,f,d⟩,b+(k:Int)⟩]) C H' (by omega) (by simp) (by simp;omega)
  clear E
  have p : ∀y H',tP [22] 4 (ma ((a++[⟨⟨c,f,d⟩,b+(k:Int)⟩])++eV (⟨⟨⟨c,f,d⟩,b⟩,j⟩:vE) n (k+1))) H' y->(((a++[⟨⟨c,f,d⟩,b+(k:Int)⟩])++eV (⟨⟨⟨c,f,d⟩,b⟩,j⟩:vE) n (k+1))=[]->y=ct)->Q y H':=λy H' h K=>hQ y H' (by simpa [eV] using h) (λe=>by simp[eV]at e)
  clear hQ hN
  have o : ∀(g m:Nat)(H':ai),m=k+1->H'.get ⟨0,22,g,0⟩=some ⟨4,ma a++[.agg [a8 c,au f,a8 d,aI (b+(k:Int))]],true,false⟩->tP [22] 4 (ma (a++[⟨⟨c,f,d⟩,b+(k:Int)⟩])) H' (.cL ⟨0,22,g,0⟩ 0 m none):=by
   intro g m H' G h
   subst G
   exact .inr ⟨22,g,by simp,by simp[ha],by rw[h];simp[ma,Va]⟩
  rcases hO with ⟨rfl,I⟩ | ⟨t,gg,F,rfl,D⟩
  ·have z:a=[]:=by simpa [ma] using I
   subst z
   have l:=o (H.gen 0 22) 1
   clear o
   simp[af,ah,ad,ae,aa, *,jm]
   exact v _ _ (by simp(maxDischargeDepth:=12) [ai.get_put,aq,aj,Fr.nil,aw,af,ah,ad,ae,ao,ak,aa, *]) (by simp(maxDischargeDepth:=12) [ai.get_put,aq,aj,Fr.nil,aw,af,ah,ad,ae,ao,ak,aa, *]) (l _ (by simp at ha;omega) (by simp[ma])) (λe=>by simp at e) p
  ·rw[uP]at F
   subst F
   have L:(H.get ⟨0,22,gg,0⟩).isSome=true:=by rw[D];rfl
   have J:(H.get r1).isSome=true:=by rw[hB];rfl
   have n1:r1≠⟨0,22,gg,0⟩:=by rintro rfl;simp at A
   have O:mY 4 24 a.length true none (some ⟨4,ma a,true,false⟩) (some [.agg [a8 c,au f,a8 d,aI (b+(k:Int))]]):=by
    simp;omega
   have l:=o (H.gen 0 22) (a.length+1)
   clear o
   have w:a.length+1=k+1:=by rw[ha]
   have q:=λH'=>l H' w
   clear ha l w
   simp[af,ah,ad,ae,aa, *,jm]
   exact v _ _ (by simp(maxDischargeDepth:=12) [ai.get_put,aq,aj,Fr.nil,aw,af,ah,ad,ae,ao,ak,aa, *]) (by simp(maxDischargeDepth:=12) [ai.get_put,aq,aj,Fr.nil,aw,af,ah,ad,ae,ao,ak,aa, *]) (q _ (by simp)) (λe=>by simp at e) p
theorem Tj(d:UInt8)(c:UInt32)(f:UInt8)(b:Int)(a:Int)(m:eP (⟨⟨⟨d,c,f⟩,b⟩,a⟩:vE)=true):aF env 196 [.agg [a8 d,au c,a8 f,aI b,aI a]]=some (xR 4 (ma (eV (⟨⟨⟨d,c,f⟩,b⟩,a⟩:vE) a.toNat 0))):=by
 refine aG rfl (by kernel_rfl) (yK _ _ _ λg=>?_)
 have l:=gz m
 simp only at l
 simp[af,ah,ad,ae,aa, *,sc]
 refine Rr d c f b a (by omega) (by omega) (by omega) (by rfl) a.toNat 0 _ [] _ _ (by omega) rfl rfl (by simp(maxDischargeDepth:=12) [aq,aj,Fr.nil,aw,af,ah,ad,ae,ao,ak,aa, *]) (by simp) (.inl ⟨rfl,rfl⟩) (λ_=>rfl) (λy H' h k=>?_)
 rw[vS]at h k
 rcases h with ⟨rfl,n⟩ | ⟨t,gg,o,rfl,i⟩
 ·rw[n];simp[xR]
 ·have j:ma (eV (⟨⟨⟨d,c,f⟩,b⟩,a⟩:vE) a.toNat 0)≠[]:=by
   intro e
   have:eV (⟨⟨⟨d,c,f⟩,b⟩,a⟩:vE) a.toNat 0=[]:=by simpa [ma] using e
   cases k this
  rw[CL 4 j]
  rw[yc]at *
  simp[i]
theorem Mt(l:List aK)(o:aK) : ∀n k,((eV o.s n k).all λi=>decide (Ku o∈pw l i (Ku o)))=pG l o n k:=by
 intro n
 induction n with
 | zero=>intro k;rfl
 | succ n a=>intro k;rw[eV,Ad,a,pG]
theorem JY{l:List (aK × AV)}{x0:AV}(M:Sl 17 (cI l) x0)(z : ∀p∈l,HW p)(R : ∀p∈l,eP p.1.s=true)(W:l.length<100000)(F:UInt8)(b:UInt8)(a:UInt32)(O:UInt8)(N:Int)(L:UInt8)(K:UInt32)(I:UInt8)(G:Int)(C:Int)(v:UInt8)(q:UInt32)(o:UInt8)(u:Int)(j:UInt8)(m:UInt32){x:AV}{h:List bV}{S:AV}(w:Sl 4 (ma h) S)(V:h.length<100000){r3:Ref}{H:ai}
 (hB:H.get r3=some ⟨17,[.agg [a8 F,a8 b,au a,a8 O,aI N,a8 L,au K,a8 I,aI G,aI C,a8 v,au q,a8 o,aI u,a8 j,au m,x]],false,false⟩) {Q:AV->ai->Prop} :
 ∀(s:List bV)(k:Nat)(i:Int),h.drop k=s->k<=h.length->i=k ->
 (∀y,y=aB ((s.all λi=>decide ((⟨b,a⟩:jy)∈pw (opsOf l) i ⟨b,a⟩))&&tU ⟨b,a⟩ ⟨j,m⟩)->Q y H) ->
 bN env Tryz.f200 0 fU [(6,aI i),(3,.ptr r3 0 0),(5,S),(0,x0)] H Q:=by
 intro s
 induction s with
 | nil=>
  rintro k i hs hk rfl hQ
  obtain rfl:=drop_nil hs hk
  refine m8 _ _ _ _ _ _ λg=>?_
  simp[af,ah,ad,ae,aa, *,fW,w.len]
  all_goals exact hQ _ (by simp)
 | cons t s T=>
  rintro k i hs hk rfl hQ
  obtain⟨⟨c,f,e⟩,d⟩:=t
  obtain⟨Y,Z,P,J⟩:=drop_cons hs
  have e3:=IntWalk.i64_in ((k:Int)+1) (by omega)
  have h1:=adD M z R W c f e d b a
  have D:=IY (opsOf l) (⟨⟨c,f,e⟩,d⟩:bV) ⟨b,a⟩
  rw[show(opsOf l).length=l.length from so _]at D
  have U:=PI (Qn (pw (opsOf l) (⟨⟨c,f,e⟩,d⟩:bV) ⟨b,a⟩)) (by omega) b a
  have X:bX (ma h) k 0 4 true=some (.agg [a8 c,au f,a8 e,aI d]):=by simp[ma,Va,J]
  rw[Ad]at hQ
  have n:=T (k+1) _ P (by omega) rfl
  clear T D
  refine m8 _ _ _ _ _ _ λg=>?_
  by_cases E:(⟨b,a⟩:jy)∈pw (opsOf l) (⟨⟨c,f,e⟩,d⟩:bV) ⟨b,a⟩
  ·rw[decide_eq_true E]at hQ U
   rw[nx]at hQ
   clear E
   generalize pw (opsOf l) (⟨⟨c,f,e⟩,d⟩:bV) ⟨b,a⟩=D at *
   have A:=n hQ
   clear n hQ
   simp[af,ah,ad,ae,aa, *,fW,w.r,w.idx,M.r]
   exact A
  ·rw[decide_eq_false E]at hQ U
   rw[xg,xg]at hQ
   clear E n
   generalize pw (opsOf l) (⟨⟨c,f,e⟩,d⟩:bV) ⟨b,a⟩=D at *
   simp[af,ah,ad,ae,aa, *,fW,w.r,w.idx,M.r]
   all_goals exact hQ _ rfl
theorem QX{l:List (aK × AV)}{x0:AV}(J:Sl 17 (cI l) x0)(z : ∀p∈l,HW p)(F : ∀p∈l,eP p.1.s=true)(O:l.length<100000)(y:UInt8)(u:UInt8)(t:UInt32)(w:UInt8)(v:Int)(f:UInt8)(b:UInt32)(h:UInt8)(d:Int)(a:Int)(q:UInt8)(n:UInt32)(m:UInt8)(o:Int)(j:UInt8)(k:UInt32){C:List Int}{x:AV}(A:Sl 1 (rows C) x)(L:eP ⟨⟨⟨f,b,h⟩,d⟩,a⟩=true) :
 aF env 200 [x0,.agg [a8 y,a8 u,au t,a8 w,aI v,a8 f,au b,a8 h,aI d,aI a,a8 q,au n,a8 m,aI o,a8 j,au k,x]]=some (aB (kI (opsOf l) (⟨y,⟨u,t,w⟩,v,⟨⟨⟨f,b,h⟩,d⟩,a⟩,⟨⟨q,n,m⟩,o⟩,⟨j,k⟩,C⟩:aK))):=by
 refine aG rfl (by kernel_rfl) (uW _ _ _ _ λg=>?_)
 by_cases M:y=3
 ·subst M
  have R:=Tj f b h d a L
  have G:=gz L
  simp only at G
  have E:=EG ⟨⟨⟨f,b,h⟩,d⟩,a⟩ a.toNat 0
  have D:=A5 4 (ma (eV ⟨⟨⟨f,b,h⟩,d⟩,a⟩ a.toNat 0))
  have N:kI (opsOf l) (⟨3,⟨u,t,w⟩,v,⟨⟨⟨f,b,h⟩,d⟩,a⟩,⟨⟨q,n,m⟩,o⟩,⟨j,k⟩,C⟩:aK)=(((eV ⟨⟨⟨f,b,h⟩,d⟩,a⟩ a.toNat 0).all λi=>decide ((⟨u,t⟩:jy)∈pw (opsOf l) i ⟨u,t⟩))&&tU ⟨u,t⟩ ⟨j,k⟩):=by
   rw[ME _ _ rfl,Bool.and_comm]
   congr 1
   exact(Mt (opsOf l) ⟨3,⟨u,t,w⟩,v,⟨⟨⟨f,b,h⟩,d⟩,a⟩,⟨⟨q,n,m⟩,o⟩,⟨j,k⟩,C⟩ a.toNat 0).symm
  rw[N]
  have I:(eV ⟨⟨⟨f,b,h⟩,d⟩,a⟩ a.toNat 0).length<100000:=by omega
  clear N E G
  generalize eV ⟨⟨⟨f,b,h⟩,d⟩,a⟩ a.toNat 0=ids at *
  generalize xR 4 (ma ids)=xo at *
  have K:=λ(r3:Ref)(H:ai) hB Q=>JY J z F O 3 u t w v f b h d a q n m o j k (x:=x) D I (r3:=r3) (H:=H) hB (Q:=Q) ids 0 0 rfl (by omega) rfl
  clear z F
  rcases D with ⟨rfl,G⟩ | ⟨c,rfl,P⟩
  ·simp[af,ah,ad,ae,aa, *,hU,J.r,A.r]
  ·simp[af,ah,ad,ae,aa, *,hU,J.r,A.r]
 ·have e:kI (opsOf l) (⟨y,⟨u,t,w⟩,v,⟨⟨⟨f,b,h⟩,d⟩,a⟩,⟨⟨q,n,m⟩,o⟩,⟨j,k⟩,C⟩:aK)=true:=by unfold kI;rw[if_neg M]
  simp[af,ah,ad,ae,aa, *,hU,A.r]
end Go.Proofs.YtmkmimgokagimaaGreat
namespace Go.Proofs.YtmkmimgokagimaaGreat
open Go.Ab
attribute [local simp] aW aJ aH aV aU cr ld bf aQ aT cz cw bI bg aC bH gh
def p8(l:List Int):Prop :=∀a∈l, -2147483648<=a/\a<=2147483647
theorem Qx(i:bV):decide (i=qX)=gf i:=by
 rw[Fo,decide_eq_true_eq,xd]
@[simp] theorem abt(c:UInt8)(b:UInt32)(a:UInt8)(d:Int):aF env 222 [.agg [a8 c,au b,a8 a,aI d]]=some (aB (gf (⟨⟨c,b,a⟩,d⟩:bV))):=by
 refine aG rfl (by kernel_rfl) (xz _ _ _ λg=>?_)
 simp[af,ah,ad,ae,aa, *,qF,gf,fJ,bU]
section
variable(a_1:UInt8)(a_2:UInt32)(a_3:UInt8)(a_4:Int)(a_5:Int)(a_6:UInt8)(a_7:UInt32)(a_8:UInt8)(a_9:Int){x:AV}{l:List Int}(hx:Sl 1 (rows l) x)(hl:l.length<1000000)(hR:p8 l)
include hx hl
theorem Tq(hR:p8 l):aF env 198 [.agg [a8 a_1,au a_2,a8 a_3,aI a_4,aI a_5,a8 a_6,au a_7,a8 a_8,aI a_9,x]]=some (aB (xM (⟨⟨⟨⟨a_1,a_2,a_3⟩,a_4⟩,a_5⟩,⟨⟨a_6,a_7,a_8⟩,a_9⟩,l⟩:Rn))):=by
 have c:=IG hx (by omega) hR
 have a:=A2 l
 unfold xM
 simp only[Qx]
 refine aG rfl (by kernel_rfl) (yD _ _ _ λg=>?_)
 cases c1:eP (⟨⟨⟨a_1,a_2,a_3⟩,a_4⟩,a_5⟩:vE) with
 | false=>simp[af,ah,ad,ae,aa, *,fk,hx.r]
 | true=>
  by_cases c2:(l.length:Int)=a_5
  ·subst c2
   cases c3:JX l with
   | false=>
    have b : ¬Bg l=0:=by rw[a,c3];decide
    clear a
    simp[af,ah,ad,ae,aa, *,fk,hx.r]
   | true=>
    have b:Bg l=0:=a.2 c3
    clear a
    cases c4:gf (⟨⟨a_6,a_7,a_8⟩,a_9⟩:bV) with
    | true=>simp[af,ah,ad,ae,aa, *,fk,hx.r]
    | false=>cases c5:D2 (⟨⟨a_6,a_7,a_8⟩,a_9⟩:bV)<;>simp[af,ah,ad,ae,aa, *,fk,hx.r]
  ·clear a
   simp[af,ah,ad,ae,aa, *,fk,hx.r]
end
@[simp] theorem PL(a_1:UInt8)(a_2:UInt32)(a_3:UInt8)(a_4:Int)(a_5:Int)(a_6:UInt8)(a_7:UInt32)(a_8:UInt8)(a_9:Int)(n:Int){x:AV}{l:List Int}(hx:Sl 1 (rows l) x):aF env 236 [.agg [a8 a_1,au a_2,a8 a_3,aI a_4,aI a_5,a8 a_6,au a_7,a8 a_8,aI a_9,x],aI n]=some (.agg [a8 a_1,au a_2,a8 a_3,aI (IntKind.i64.wrap (a_4+n))]):=by
 refine aG rfl (by kernel_rfl) (zZ _ _ _ _ λg=>?_)
 simp[af,ah,ad,ae,aa, *,sI,hx.r]
@[simp] theorem Lq(a_1:UInt8)(a_2:UInt32)(a_3:UInt8)(a_4:Int)(a_5:Int)(a_6:UInt8)(a_7:UInt32)(a_8:UInt8)(a_9:Int)(n:Int){x:AV}{l:List Int}(hx:Sl 1 (rows l) x)(c:0<=n)(b:n<1000000):aF env 237 [.agg [a8 a_1,au a_2,a8 a_3,aI a_4,aI a_5,a8 a_6,au a_7,a8 a_8,aI a_9,x],aI n] =
 some (if n=0 then .agg [a8 a_6,au a_7,a8 a_8,aI a_9] else .agg [a8 a_1,au a_2,a8 a_3,aI (IntKind.i64.wrap (a_4+(n - 1)))]):=by
 have h:=PL a_1 a_2 a_3 a_4 a_5 a_6 a_7 a_8 a_9 (n - 1) hx
 have w:=IntWalk.i64_in (n - 1) (by omega)
 refine aG rfl (by kernel_rfl) (vI _ _ _ _ λg=>?_)
 by_cases a:n=0
 ·subst a
  simp[af,ah,ad,ae,aa, *,kZ,hx.r]
 ·simp[af,ah,ad,ae,aa, *,kZ,hx.r]
end Go.Proofs.YtmkmimgokagimaaGreat
namespace Go.Proofs.YtmkmimgokagimaaGreat
open Go.Ab
attribute [local simp] aW aJ aH aV aU cr ld bf aQ aT cz cw bI bg aC bH gh Mq
def RO(P:Program)(t:TypeId):Bool:=match P.underlying t with
 | some (.interface _)=>false
 | some _=>true
 | none=>false
theorem DP{P:Program}{t:TypeId}(h:RO P t=true)(x:AV):sT P t (some x)=some (.ifc t x,[]):=by
 unfold RO at h
 unfold sT
 cases hu:P.underlying t with
 | none=>rw[hu]at h;cases h
 | some d=>rw[hu]at h;cases d<;>first | rfl | cases h
theorem BU{P:Program}{t a:TypeId}(h:RO P a=true)(y:AV)(ok:Bool):s9 P (some (.ifc t y)) a ok=(if t=a then some ((if ok then .tup [y,.v (.bool true)] else y),[]) else if ok then (ff P a).map λz=>(.tup [z,.v (.bool false)],[]) else none):=by
 unfold RO at h
 unfold s9
 cases hu:P.underlying a with
 | none=>rw[hu]at h;cases h
 | some d=>rw[hu]at h;cases d<;>first | rfl | cases h
@[simp] theorem aen:RO env.P 25=true:=by kernel_rfl
@[simp] theorem aeo:RO env.P 42=true:=by kernel_rfl
attribute [local simp] DP BU
section
variable{xu xq:AV}{us:List Clear}{qs:List ax}{gr:Int}(hu:Sl 3 (bZ us) xu)(hq:Sl 5 (bS qs) xq)(hql:qs.length * 32<=140737488355328)(hul:us.length * 12<=140737488355328)
include hu hq hql hul
theorem Ta(a:Int)(v:UInt8)(c:UInt32)(ok:Bool)(q:0<=a)(j:a<us.length)(p:gr≠0) : ∃f,Sl 5 (bS qs) f /\
 aF env 203 [.agg [xu,xq,aI gr],.agg [aI a,a8 v,au c,aB ok]]=some (.ifc 25 (.agg [.bW 3 (bZ (us.set a.toNat ⟨v,c,ok⟩)) none,f,aI (IntKind.i64.wrap (gr - 1))])):=by
 have n:=PN (gr:=gr) hu hq hql hul
 obtain⟨l,rfl,_⟩:=hu.Xb (by intro e;have:=congrArg List.length e;simp at this;subst this;simp at j;omega)
 have d:bZ us≠[]:=by intro e;have:=congrArg List.length e;simp at this;subst this;simp at j;omega
 rw[sW 3 l d]at n
 have m:=vn hq
 generalize rH xq=f at *
 have o:jz (bZ us) a.toNat 0 [a8 v,au c,aB ok]=some (bZ (us.set a.toNat ⟨v,c,ok⟩)):=by
  have h:a.toNat<us.length:=by omega
  simp[Eu,fc h,Clear.enc,FB]
 have i:(bZ us).length=us.length:=by simp
 have k : ¬(us.length:Int)<=a:=by omega
 rcases m with ⟨rfl,b⟩ | rfl | ⟨rfl,b⟩
 ·refine⟨ct,.inl ⟨rfl,b⟩,?_⟩
  refine aG rfl (by kernel_rfl) (nV _ _ _ _ λg=>?_)
  simp[af,ah,ad,ae,aa, *,my,hq.r,aH]
 ·refine⟨.bW 5 (bS qs) none,Sl.mk _ _,?_⟩
  refine aG rfl (by kernel_rfl) (nV _ _ _ _ λg=>?_)
  simp[af,ah,ad,ae,aa, *,my,hq.r,aH]
 ·refine⟨.bW 5 [] (some 0),.inr ⟨some 0,by rw[b],by rw[b];simp⟩,?_⟩
  refine aG rfl (by kernel_rfl) (nV _ _ _ _ λg=>?_)
  simp[af,ah,ad,ae,aa, *,my,hq.r,aH]
theorem QT(a:Int)(v:UInt8)(c:UInt32)(ok:Bool)(d:(us.length:Int)<=a):aF env 203 [.agg [xu,xq,aI gr],.agg [aI a,a8 v,au c,aB ok]]=some (.ifc 42 (aI 2)):=by
 refine aG rfl (by kernel_rfl) (nV _ _ _ _ λg=>?_)
 have b:(bZ us).length=us.length:=by simp
 simp[af,ah,ad,ae,aa, *,my,hu.r,hq.r]
theorem QS(a:Int)(v:UInt8)(c:UInt32)(ok:Bool)(e : ¬(us.length:Int)<=a)(d:gr=0):aF env 203 [.agg [xu,xq,aI gr],.agg [aI a,a8 v,au c,aB ok]]=some (.ifc 42 (aI 9)):=by
 subst d
 refine aG rfl (by kernel_rfl) (nV _ _ _ _ λg=>?_)
 have b:(bZ us).length=us.length:=by simp
 simp[af,ah,ad,ae,aa, *,my,hu.r,hq.r]
end
def w6(us:List Clear)(qs:List ax)(gr:Int)(a:Int)(v:UInt8)(c:UInt32)(ok:Bool):Int:=
 if tF us qs gr&&wW a v c ok then (if (us.length:Int)<=a then 2 else if gr=0 then 9 else 0) else 8
section
variable{xu xq:AV}{us:List Clear}{qs:List ax}{gr:Int}(hu:Sl 3 (bZ us) xu)(hq:Sl 5 (bS qs) xq)(hql:qs.length * 32<=140737488355328)(hul:us.length * 12<=140737488355328)
include hu hq hql hul
theorem Rd(a:Int)(v:UInt8)(c:UInt32)(ok:Bool)(h:w6 us qs gr a v c ok≠0):aF env 152 [.agg [xu,xq,aI gr],.agg [aI a,a8 v,au c,aB ok]]=some (.tup [.agg [ct,ct,aI 0],aI (w6 us qs gr a v c ok)]):=by
 have k:=CB (gr:=gr) hu hq (by omega) (by omega)
 have j:=Lu a v c ok
 refine aG rfl (by kernel_rfl) (Ai _ _ _ _ λg=>?_)
 unfold w6 at h ⊢
 cases hm:tF us qs gr with
 | false=>
  cases d:wW a v c ok<;>simp[af,ah,ad,ae,aa, *,mz,hu.r,hq.r,bad]
 | true=>
  cases d:wW a v c ok with
  | false=>simp[af,ah,ad,ae,aa, *,mz,hu.r,hq.r,bad]
  | true=>
   rw[hm,d]at h
   simp only[Bool.and_self,if_true]at h ⊢
   by_cases b:(us.length:Int)<=a
   ·have i:=QT (gr:=gr) hu hq hql hul a v c ok b
    simp[af,ah,ad,ae,aa, *,mz,hu.r,hq.r,bad]
   ·have f:gr=0:=Decidable.by_contra λe=>h (by rw[if_neg b,if_neg e])
    have i:=QS (gr:=gr) hu hq hql hul a v c ok b f
    subst f
    simp[af,ah,ad,ae,aa, *,mz,hu.r,hq.r,bad]
theorem Lv(a:Int)(v:UInt8)(c:UInt32)(ok:Bool)(h:w6 us qs gr a v c ok=0) : ∃f,Sl 5 (bS qs) f /\
 aF env 152 [.agg [xu,xq,aI gr],.agg [aI a,a8 v,au c,aB ok]]=some (.tup [.agg [.bW 3 (bZ (us.set a.toNat ⟨v,c,ok⟩)) none,f,aI (IntKind.i64.wrap (gr - 1))],aI 0]):=by
 have l:=CB (gr:=gr) hu hq (by omega) (by omega)
 have j:=Lu a v c ok
 unfold w6 at h
 split at h
 ·rename_i d
  rw[bh]at d
  obtain⟨d,i⟩:=d
  split at h
  ·cases h
  ·rename_i m
   split at h
   ·cases h
   ·rename_i k
    have b:=i
    simp only[wW,bh,decide_eq_true_eq]at b
    obtain⟨f,e,n⟩:=Ta (gr:=gr) hu hq hql hul a v c ok b.1.1 (by omega) k
    refine⟨f,e,?_⟩
    clear b h
    refine aG rfl (by kernel_rfl) (Ai _ _ _ _ λg=>?_)
    rw[d]at l
    rw[i]at j
    clear d i
    generalize us.set a.toNat ⟨v,c,ok⟩=us' at *
    simp[af,ah,ad,ae,aa, *,mz,hu.r,hq.r,e.r,bad]
 ·cases h
end
end Go.Proofs.YtmkmimgokagimaaGreat
namespace Go.Proofs.YtmkmimgokagimaaGreat
open Go.Ab
attribute [local simp] aW aJ aH aV aU cr ld bf aQ aT cz cw bI bg aC bH gh
attribute [local simp] JT
@[simp] theorem Wt(a:Int)(v:UInt8)(c:UInt32)(ok:Bool):aF env 156 [.agg [aI a,a8 v,au c,aB ok]]=some (aB (decide (0<=a)&&decide (a<8)&&oB v c ok)):=by
 refine aG rfl (by kernel_rfl) (yG _ _ _ λg=>?_)
 simp[af,ah,ad,ae,aa, *,rX]
 repeat' ((first | refine iK (λh=>?_) (λh=>?_) | refine fQ (λh=>?_) (λh=>?_) | refine fR (λh=>?_) (λh=>?_) | refine fO (λh=>?_) (λh=>?_) | refine fP (λh=>?_) (λh=>?_))<;>(try simp only[decide_eq_true_eq,decide_eq_false_iff_not,dV,kp,bh,fe]at h)<;>(try simp[af,ah,ad,ae,aa, *]))
def Cj(z:Nat):List AV->AV
 | []=>ct
 | es => .bW z es none
@[simp] theorem aaW(z:Nat):Cj z []=ct:=id rfl
theorem K0(z:Nat){es:List AV}(h:es≠[]):Cj z es = .bW z es none:=by
 cases es with
 | nil=>exact absurd rfl h
 | cons a l=>rfl
theorem F2(z:Nat)(es:List AV):Sl z es (Cj z es):=by
 by_cases h:es=[]
 ·subst h;exact .inl ⟨rfl,rfl⟩
 ·rw[K0 z h];exact .inr ⟨none,rfl,by simp⟩
def mX(us:List Clear)(gr a:Int):Int:=if (us.length:Int)<=a then 2 else if gr=0 then 9 else 0
section
variable{xu xq:AV}{us:List Clear}{qs:List ax}{gr:Int}(hu:Sl 3 (bZ us) xu)(hq:Sl 5 (bS qs) xq)(hql:qs.length<1000)(hul:us.length<1000)
include hu hq hql hul
theorem IJ(a:Int)(v:UInt8)(c:UInt32)(ok:Bool)(h:mX us gr a≠0) :
 aF env 157 [.agg [xu,xq,aI gr],.agg [aI a,a8 v,au c,aB ok]]=some (.tup [.agg [xu,xq,aI gr],aI (mX us gr a)]):=by
 unfold mX at *
 refine aG rfl (by kernel_rfl) (kW _ _ _ _ λg=>?_)
 have b:(bZ us).length=us.length:=by simp
 by_cases e:(us.length:Int)<=a
 ·clear h
  simp[af,ah,ad,ae,aa, *,fA,hu.r,hq.r]
 ·by_cases d:gr=0
  ·subst d
   clear h
   simp[af,ah,ad,ae,aa, *,fA,hu.r,hq.r]
  ·rw[if_neg e,if_neg d]at h
   exact absurd rfl h
theorem IK(a:Int)(v:UInt8)(c:UInt32)(ok:Bool)(p:0<=a)(h:mX us gr a=0) :
 aF env 157 [.agg [xu,xq,aI gr],.agg [aI a,a8 v,au c,aB ok]]=some (.tup [.agg [.bW 3 (bZ (us.set a.toNat ⟨v,c,ok⟩)) none,Cj 5 (bS qs),aI (IntKind.i64.wrap (gr - 1))],aI 0]):=by
 have k:=Ws (gr:=gr) hu hq (by omega) (by omega)
 unfold mX at h
 split at h
 ·cases h
 ·rename_i m
  split at h
  ·cases h
  ·rename_i o
   clear h
   have n:jz (bZ us) a.toNat 0 [a8 v,au c,aB ok]=some (bZ (us.set a.toNat ⟨v,c,ok⟩)):=by
    have b:a.toNat<us.length:=by omega
    simp[Eu,fc b,Clear.enc,FB]
   have j:(bZ us).length=us.length:=by simp
   have f:bZ us≠[]:=by intro e;have:=congrArg List.length e;simp at this;subst this;simp at m;omega
   have d:(bZ (us.set a.toNat ⟨v,c,ok⟩)).length=us.length:=by simp
   rw[CM 3 f]at k
   generalize bZ (us.set a.toNat ⟨v,c,ok⟩)=es at *
   have l:a<us.length:=by omega
   by_cases i:qs=[]
   ·subst i
    refine aG rfl (by kernel_rfl) (kW _ _ _ _ λg=>?_)
    simp[af,ah,ad,ae,aa, *,fA,hu.r,hq.r]
   ·have n2:bS qs≠[]:=by simpa using i
    rw[CM 5 n2]at k
    rw[K0 5 n2]
    refine aG rfl (by kernel_rfl) (kW _ _ _ _ λg=>?_)
    simp[af,ah,ad,ae,aa, *,fA,hu.r,hq.r]
end
section
variable{xu xq:AV}{us:List Clear}{qs:List ax}{gr:Int}(hu:Sl 3 (bZ us) xu)(hq:Sl 5 (bS qs) xq)(hql:qs.length<1000000)
include hu hq hql
theorem Rk{a:UInt8}{b:UInt32}{r1 r2 r3:Ref}(w:r1≠r3/\r2≠r3){Q:AV->ai->Prop} : ∀(s:List ax)(k:Nat)(H:ai)(z:ax),qs.drop k=s->k<=qs.length->H.get r1=some ⟨3,[.agg [xu,xq,aI gr]],false,false⟩->H.get r2=some ⟨2,[.agg [a8 a,au b]],false,false⟩ ->
 H.get r3=some ⟨5,[.agg z.enc],false,false⟩->(∀H' y,y=AV.agg (PY a b (s.find? (wi a b))).enc->Q y H')->bN env Tryz.f143 0 jC [(4,.ptr r3 0 0),(5,aI k),(2,.ptr r1 0 0),(3,.ptr r2 0 0)] H Q:=by
 intro s
 induction s with
 | nil=>
  rintro k H z hs hk h1 h2 h3 hQ
  obtain rfl:=drop_nil hs hk
  have j:=λH'=>hQ H' _ rfl
  simp only[List.find?_nil,OH,ax.enc]at j
  have i:(bS qs).length=qs.length:=by simp
  simp only[ax.enc]at h3
  refine qq _ _ _ _ _ _ λg=>?_
  clear hQ
  simp[af,ah,ad,ae,aa, *,mD,hq.r,ai.get_put]
 | cons q s t=>
  rintro k H z hs hk h1 h2 h3 hQ
  obtain⟨n,v,l,d⟩:=drop_cons hs
  have u:=IntWalk.i64_in ((k:Int)+1) (by omega)
  have i:(bS qs).length=qs.length:=by simp
  have f:bX (bS qs) k 0 5 true=some (.agg q.enc):=by simp[bS,d,ax.enc]
  have m:bX (bS qs) k 0 2 true=some (.agg [a8 q.lv,au q.cats]):=by simp[bX,bS,d,ax.enc]
  have c:=λ(h:wi a b q=true) H'=>hQ H' _ (by rw[List.find?_cons_of_pos h])
  have o:=λ(h : ¬wi a b q=true)=>t (k+1) H z l (by omega) h1 h2 h3 (λH' y e=>hQ H' y (by rw[List.find?_cons_of_neg h];exact e))
  rw[show((k+1:Nat):Int)=(k:Int)+1 from by omega]at o
  simp only[ax.enc,OG]at c f h3
  have p:(k:Int)<qs.length:=by omega
  generalize bS qs=eq at *
  clear t hQ hs l v d
  refine qq _ _ _ _ _ _ λg=>?_
  simp[af,ah,ad,ae,aa, *,mD,hq.r,hq.idx,n,i,f,m,fJ,bU]
  refine iK (λh=>?_) (λh=>?_)
  ·simp[hq.r,hq.idx,n,i,f,ai.get_put,h1,h2,h3]
   exact c (by simpa [wi] using h) _
  ·simp[u]
   exact o (by simpa [wi] using h)
theorem Tm(a:UInt8)(b:UInt32):aF env 143 [.agg [xu,xq,aI gr],.agg [a8 a,au b]]=some (.agg (nE qs a b).enc):=by
 refine aG rfl (by kernel_rfl) (z0 _ _ _ _ λg=>?_)
 simp[af,ah,ad,ae,aa, *,sJ,hu.r,hq.r]
 refine Rk (gr:=gr) (a:=a) (b:=b) (r1:=⟨0,2,0,0⟩) (r2:=⟨0,3,0,0⟩) (r3:=⟨0,4,0,0⟩) hu hq hql ⟨by simp,by simp⟩ qs 0 _ ⟨0,0,0,0,0⟩ rfl (by omega) ?_ ?_ ?_ (λH' y e=>?_)
 ·simp
 ·simp
 ·simp[ax.enc]
 ·subst e
  simp[nE,ax.enc]
end
end Go.Proofs.YtmkmimgokagimaaGreat
namespace Go.Proofs.YtmkmimgokagimaaGreat
open Go.Ab Go.ChangeShapes Go.WideShapes Go.RowKit
theorem LC:Nq env.P 62 (λp:cH × AV=>Sl 1 (rows p.1.op.l) p.2/\p8 p.1.op.l) ahj:=by
 intro n xs h
 have h:=mg (P:=env.P) MH h
 obtain⟨m,x,r1,rfl,b,w,r2,rfl,j,v,r3,rfl,d,o,r4,rfl,e,l,r5,rfl,a,rfl⟩:=h
 obtain⟨k,_,rfl⟩:=PR (P:=env.P) (t:=5) (by simp) _ _ b
 obtain⟨u,_,rfl⟩:=ra (P:=env.P) (t:=3) (by simp) _ _ j
 obtain⟨q,f,rfl⟩:=TK _ _ d
 obtain⟨c,_,rfl⟩:=ra (P:=env.P) (t:=42) (by simp) _ _ e
 have i:=mg (P:=env.P) MI a
 obtain⟨m,y1,s1,rfl,i1,y2,s2,rfl,i2,rfl⟩:=i
 obtain⟨g,_,rfl⟩:=ra (P:=env.P) (t:=3) (by simp) _ _ i1
 obtain⟨z,_,rfl⟩:=WH _ _ i2
 exact⟨(⟨k,u,q.1,c,g,z.1,z.2.1,z.2.2⟩,q.2),f,rfl⟩
theorem Wk{n:Nat}{x:AV}(h:Sg env.P n 62 x) : ∃p:cH × AV,(Sl 1 (rows p.1.op.l) p.2/\p8 p.1.op.l)/\x=p.1.val p.2:=by
 obtain⟨y,rfl,a⟩:=h.agg (by simp)
 obtain⟨q,b,rfl⟩:=LC _ _ a
 exact⟨q,b,rfl⟩
theorem S4{n:Nat}{x:AV}(h:Sg env.P n 26 x) : ∃(l:List (cH × AV)),(∀p∈l,Sl 1 (rows p.1.op.l) p.2/\p8 p.1.op.l)/\Sl 24 (bY l) x:=by
 obtain⟨l,z,a,e,s⟩:=Cx (P:=env.P) SR SN Wf LC (h.cell (by simp))
 cases e
 exact⟨l,a,s⟩
end Go.Proofs.YtmkmimgokagimaaGreat
namespace Go.Proofs.YtmkmimgokagimaaGreat
open Go.Ab
attribute [local simp] aW aJ aH aV aU cr ld bf aQ aT cz cw bI bg aC bH gh
structure yv where
 o:Bool
 u:Int
 s:Int
structure zw where
 opens:Int
 ops:Int
 cells:Int
def yv.av(s:yv):AV := .agg [aB s.o,aI s.u,aI s.s]
def zw.av(u:zw):AV := .agg [a8 0,au 0,aI u.opens,aI u.ops,aI u.cells]
def qR:Option AV->yv
 | some (.agg [.v (.bool o),.v (.int _ u),.v (.int _ s)])=>⟨o,u,s⟩
 | _=>⟨false,0,0⟩
def tz:Option AV->zw
 | some (.agg [_,_,.v (.int _ x),.v (.int _ y),.v (.int _ z)])=>⟨x,y,z⟩
 | _=>⟨0,0,0⟩
@[simp] theorem Cz(s:yv):qR (some s.av)=s:=by cases s;rfl
@[simp] theorem JM(u:zw):tz (some u.av)=u:=by cases u;rfl
def S6(l:List (sj × AV)):Prop :=∀p∈l,∃s:yv,p.2=s.av
def SL(l:List (jy × AV)):Prop :=∀p∈l,∃u:zw,p.2=u.av
theorem look_ok{K:Type}[DecidableEq K]{P:AV->Prop} : ∀ {l:List (K × AV)} (h : ∀p∈l,P p.2) (k:K),bT k l=none \/∃x,bT k l=some x/\P x
 | [],_,_ => .inl rfl
 | p :: l,h,k=>by
  unfold bT
  split
  ·exact .inr ⟨p.2,rfl,h p jn⟩
  ·exact look_ok (λq a=>h q (il _ a)) k
theorem Cy{K:Type}[DecidableEq K]{P:AV->Prop}{k:K}{x:AV}(a:P x) : ∀ {l:List (K × AV)} (h : ∀p∈l,P p.2),∀p∈jq k x l,P p.2
 | [],_=>by intro p hp;simp[jq]at hp;rw[hp];exact a
 | q :: l,h=>by
  intro p hp
  unfold jq at hp
  split at hp
  ·rcases m6.1 hp with rfl | hp
   ·exact a
   ·exact h p (il _ hp)
  ·rcases m6.1 hp with rfl | hp
   ·exact h _ jn
   ·exact Cy a (λp hp=>h p (il _ hp)) p hp
theorem S5{l:List (sj × AV)}(h:S6 l)(k:sj):(bT k l).getD (.agg [aB false,aI 0,aI 0])=(qR (bT k l)).av:=by
 rcases look_ok (P:=λx =>∃s:yv,x=s.av) h k with e | ⟨x,e,s,rfl⟩
 ·rw[e];rfl
 ·rw[e,Cz];rfl
theorem SK{l:List (jy × AV)}(h:SL l)(k:jy):(bT k l).getD (.agg [a8 0,au 0,aI 0,aI 0,aI 0])=(tz (bT k l)).av:=by
 rcases look_ok (P:=λx =>∃u:zw,x=u.av) h k with e | ⟨x,e,u,rfl⟩
 ·rw[e];rfl
 ·rw[e,JM];rfl
def jL(z:Nat)(es:List AV)(H:ai)(x y:AV):Prop:=(x=y/\Sl z es y) \/∃r c,x = .cL r 0 es.length c/\H.get r=some ⟨z,es,true,true⟩/\y = .bW z es c/\es.length<=c.getD es.length
theorem jL.s{z:Nat}{es:List AV}{H:ai}{x y:AV}(h:jL z es H x y):kB z es H x y:=by
 rcases h with h | ⟨r,c,a,e,d,f⟩
 ·exact .inl h
 ·exact .inr ⟨r,c,true,a,e,d,f⟩
theorem jL.refs{z:Nat}{es:List AV}{H:ai}{x y:AV}(h:jL z es H x y)(n:Nat):kg H.get (ay H.get (n+1) x)=true:=by
 rcases h with ⟨rfl,h⟩ | ⟨r,c,rfl,a,rfl,d⟩
 ·rw[h.refs];rfl
 ·simp[a]
theorem jL.of{z:Nat}{es:List AV}{x:AV}(h:Sl z es x)(H:ai):jL z es H x x := .inl ⟨rfl,h⟩
structure fZ where
 us:List Clear
 gr:Int
 ses:List (sj × AV)
 used:List (jy × AV)
 eO:List (aK × AV)
structure pd (b:fZ):Prop where
 ses:S6 b.ses
 used:SL b.used
 eO : ∀p∈b.eO,HW p/\p.1.l.length<1000000
 many:b.eO.length<10000
 few:b.us.length<1000000
structure Ej (H:ai) (rb:Ref) (us0:List Clear) (qs:List ax) (gr0:Int) (b:fZ):Prop where
 box : ∃xu xq yu yq wu wq xr rs ru xh vh,H.get rb=some ⟨10,[.agg [xu,xq,aI gr0,yu,yq,aI b.gr,xr,.mp rs,.mp ru,xh]],false,false⟩/\Sl 3 (bZ us0) xu/\Sl 5 (bS qs) xq/\jL 3 (bZ b.us) H yu wu/\jL 5 (bS qs) H yq wq /\
  H.get rs=some (bj (cF z9 b.ses))/\H.get ru=some (bj (cF xV b.used))/\kB 17 (cI b.eO) H xh vh/\xr.cells=[xr]/\xr.one=true
theorem jL.grow{z:Nat}{es:List AV}{H H':ai}{x y:AV}(h:jL z es H x y)(g:bF H H'):jL z es H' x y:=by
 rcases h with h | ⟨r,c,rfl,d,rfl,a⟩
 ·exact .inl h
 ·exact .inr ⟨r,c,rfl,g.old _ _ d,rfl,a⟩
theorem kB.grow{z:Nat}{es:List AV}{H H':ai}{x y:AV}(h:kB z es H x y)(g:bF H H'):kB z es H' x y:=by
 rcases h with h | ⟨r,c,fz,rfl,d,rfl,a⟩
 ·exact .inl h
 ·exact .inr ⟨r,c,fz,rfl,g.old _ _ d,rfl,a⟩
theorem Ej.grow{H H':ai}{rb:Ref}{us0:List Clear}{qs:List ax}{gr0:Int}{b:fZ}(h:Ej H rb us0 qs gr0 b)(g:bF H H'):Ej H' rb us0 qs gr0 b:=by
 obtain⟨m,a,t,u,w,f,l,rs,ru,d,p,i,v,j,k,c,q,o,n,e⟩:=h.box
 exact⟨m,a,t,u,w,f,l,rs,ru,d,p,g.old _ _ i,v,j,jL.grow k g,jL.grow c g,g.old _ _ q,g.old _ _ o,kB.grow n g,e⟩
theorem Gv{g:da}{rs:Ref}{l:List (sj × AV)}(hb:S6 l)(a:g rs=some (bj (cF z9 l)))(h:sj):eU env.P g 126 (some (.mp rs)) (some (.agg [a8 h.lv,au h.cats,a8 h.num])) false=some ((qR (bT h l)).av,[]):=by
 have e:=As Ki G3 (t:=126) (et:=73) (by kernel_rfl) (z := .agg [aB false,aI 0,aI 0]) (by kernel_rfl) a h false
 rw[S5 hb]at e
 exact e
theorem DK{g:da}{ru:Ref}{l:List (jy × AV)}(hb:SL l)(a:g ru=some (bj (cF xV l)))(v:jy):eU env.P g 127 (some (.mp ru)) (some (.agg [a8 v.lv,au v.cats])) false=some ((tz (bT v l)).av,[]):=by
 have e:=As Kh GV (t:=127) (et:=81) (by kernel_rfl) (z := .agg [a8 0,au 0,aI 0,aI 0,aI 0]) (by kernel_rfl) a v false
 rw[SK hb]at e
 exact e
section
variable(dep:Nat){H:ai}(hF:Fr H){rb:Ref}{us0:List Clear}{qs:List ax}{gr0:Int}{b:fZ}(hb:Ej H rb us0 qs gr0 b)(hok:pd b)(hul:us0.length<1000000)(hql:qs.length<1000000)
include hF hb hok hul hql
theorem left_at(a:UInt8)(d:UInt32) : ∃H',cg env dep (.fn 146) [.ptr rb 0 0,.agg [a8 a,au d]] H =
 some (.tup [aB (decide ((tz (bT ⟨a,d⟩ b.used)).opens<(rf us0 qs gr0 a d).opens)),aB (decide ((tz (bT ⟨a,d⟩ b.used)).ops<(rf us0 qs gr0 a d).ops))],H')/\bF H H':=by
 refine eR (fn:=Tryz.f146) (c:=qT) (by kernel_rfl) (by kernel_rfl) (by kernel_rfl) (by kernel_rfl) (by kernel_rfl) ?_
 refine qO _ _ _ _ _ λg=>?_
 obtain⟨G,w,O,P,Q,C,E,rs,ru,z,L,n,m,f,j,e,M,o,k,A⟩:=hb.box
 have D:=PM (gr:=gr0) m f (by omega) (by omega) a d
 have x:(H.get rb).isSome=true:=by rw[n];rfl
 have I:(H.get ru).isSome=true:=by rw[o];rfl
 have t:=λ(H':ai)(h:H'.get ru=some (bj (cF xV b.used)))=>DK (g:=H'.get) hok.used h ⟨a,d⟩
 have c4:=j.s.cells
 have c5:=e.s.cells
 have c8:=k.cells
 generalize rf us0 qs gr0 a d=q at *
 generalize tz (bT ⟨a,d⟩ b.used)=u at *
 obtain⟨q1,q2,N,K,F⟩:=q
 obtain⟨J,v,y⟩:=u
 have i : ∀b1 b2 b3:bz,bF H ((⟨dep+1,8,H.gen (dep+1) 8,0⟩,some b3) :: (⟨dep+1,6,H.gen (dep+1) 6,0⟩,some b2) :: (⟨dep+1,3,H.gen (dep+1) 3,0⟩,some b1) :: H):=λb1 b2 b3=>⟨by simp(maxDischargeDepth:=12) [ai.get_put,aq,aj,Fr.nil,aw,af,ah,ad,ae,ao,ak,aa, *],λq c l=>by
  have p:(H.get q).isSome=true:=by rw[l];rfl
  simp[af hF p,l]⟩
 clear hb j e k hok
 simp[af,ah,ad,ae,aa, *,kV,m.r,f.r,ax.enc,zw.av]
def Av(b:fZ)(qs:List ax)(a:Int)(c:UInt8)(d:UInt32):Bool:=decide (zN b.us qs b.gr c=0)&&pa b.us a c d
theorem Uy(a:Int)(d:UInt8)(h:UInt32) : ∃H',cg env dep (.fn 147) [.ptr rb 0 0,aI a,.agg [a8 d,au h]] H=some (aB (Av b qs a d h),H')/\bF H H':=by
 refine eR (fn:=Tryz.f147) (c:=rJ) (by kernel_rfl) (by kernel_rfl) (by kernel_rfl) (by kernel_rfl) (by kernel_rfl) ?_
 refine q6 _ _ _ _ _ _ λg=>?_
 obtain⟨y,p,E,F,G,w,x,rs,ru,u,C,o,l,i,f,e,D,A,k,v⟩:=hb.box
 have n:=Zk (gr:=b.gr) f.s.sl e.s.sl (by omega) (by have:=hok.few;omega) a d h
 have q:(H.get rb).isSome=true:=by rw[o];rfl
 have c4:=λb1=>(f.s.cons hF (dep+1) 5 (some b1)).r
 have c5:=λb1=>(e.s.cons hF (dep+1) 5 (some b1)).r
 have z:=f.s.cells
 have t:=e.s.cells
 have c8:=k.cells
 have m:=bF.refl hF
 have j : ∀b1:bz,bF H ((⟨dep+1,5,H.gen (dep+1) 5,0⟩,some b1) :: H):=λb1=>bF.cons hF _ _ _
 unfold Av
 clear hb f e k hok
 generalize pa b.us a d h=ob at *
 by_cases hp:zN b.us qs b.gr d=0
 ·rw[hp]at n
  cases ob<;>simp[af,ah,ad,ae,aa, *,hZ,l.r,i.r,hp]
 ·cases ob<;>simp[af,ah,ad,ae,aa, *,hZ,l.r,i.r,hp]
def uR(us0:List Clear)(qs:List ax)(gr0:Int)(b:fZ)(o:aK):Int:=
 if pI b.eO o≠0 then pI b.eO o else if o.kind=1/\(rf us0 qs gr0 o.h.lv o.h.cats).cells<IntKind.i64.wrap ((tz (bT ⟨o.h.lv,o.h.cats⟩ b.used)).cells+o.s.many) then 9 else 0
theorem NX(o:UInt8)(d:UInt8)(a:UInt32)(z:UInt8)(y:Int)(w:UInt8)(v:UInt32)(t:UInt8)(p:Int)(f:Int)(m:UInt8)(j:UInt32)(i:UInt8)(l:Int)(k:UInt8)(n:UInt32){x:AV}{E:List Int}(D:Sl 1 (rows E) x)(G:E.length<1000000) : ∃H',cg env dep (.fn 72) [.ptr rb 0 0,.agg [a8 o,a8 d,au a,a8 z,aI y,a8 w,au v,a8 t,aI p,aI f,a8 m,au j,a8 i,aI l,a8 k,au n,x]] H=some (aI (uR us0 qs gr0 b (⟨o,⟨d,a,z⟩,y,⟨⟨⟨w,v,t⟩,p⟩,f⟩,⟨⟨m,j,i⟩,l⟩,⟨k,n⟩,E⟩:aK)),H')/\bF H H':=by
 refine eR (fn:=Tryz.f72) (c:=pb) (by kernel_rfl) (by kernel_rfl) (by kernel_rfl) (by kernel_rfl) (by kernel_rfl) ?_
 refine o8 _ _ _ _ _ λg=>?_
 obtain⟨xu,xq,yu,yq,wu,Y,Z,rs,ru,xh,vh,S,C,A,K,J,h6,T,F,W⟩:=hb.box
 have hQ:=PM (gr:=gr0) C A (by omega) (by omega) d a
 have hD:=Re F.sl hok.eO hok.many o d a z y w v t p f m j i l k n D G
 have V:(H.get rb).isSome=true:=by rw[S];rfl
 have l7:(H.get ru).isSome=true:=by rw[T];rfl
 have P:=λ(H':ai)(h:H'.get ru=some (bj (cF xV b.used)))=>DK (g:=H'.get) hok.used h ⟨d,a⟩
 have c4:=K.s.cells
 have c5:=J.s.cells
 have c8:=λb1=>(F.cons hF (dep+1) 3 (some b1)).r
 have d8:=F.cells
 have R:=bF.refl hF
 have I : ∀b1:bz,bF H ((⟨dep+1,3,H.gen (dep+1) 3,0⟩,some b1) :: H):=λb1=>bF.cons hF _ _ _
 have L : ∀b1 b2:bz,bF H ((⟨dep+1,6,H.gen (dep+1) 6,0⟩,some b2) :: (⟨dep+1,3,H.gen (dep+1) 3,0⟩,some b1) :: H):=λb1 b2=>⟨by simp(maxDischargeDepth:=12) [ai.get_put,aq,aj,Fr.nil,aw,af,ah,ad,ae,ao,ak,aa, *],λq c M=>by
  have U:(H.get q).isSome=true:=by rw[M];rfl
  simp[af hF U,M]⟩
 unfold uR
 simp only
 generalize rf us0 qs gr0 d a=q at *
 generalize tz (bT ⟨d,a⟩ b.used)=u at *
 generalize pI b.eO (⟨o,⟨d,a,z⟩,y,⟨⟨⟨w,v,t⟩,p⟩,f⟩,⟨⟨m,j,i⟩,l⟩,⟨k,n⟩,E⟩:aK)=e at *
 obtain⟨q1,q2,q3,q4,O⟩:=q
 obtain⟨u1,u2,Q⟩:=u
 clear hb K J F hok
 by_cases he:e=0
 ·by_cases N:o=1
  ·subst N
   by_cases X:O<IntKind.i64.wrap (Q+f)
   ·simp[af,ah,ad,ae,aa, *,cM,C.r,A.r,D.r,ax.enc,zw.av]
   ·simp[af,ah,ad,ae,aa, *,cM,C.r,A.r,D.r,ax.enc,zw.av]
  ·simp[af,ah,ad,ae,aa, *,cM,C.r,A.r,D.r,ax.enc,zw.av]
 ·simp[af,ah,ad,ae,aa, *,cM,C.r,A.r,D.r,ax.enc,zw.av]
end
end Go.Proofs.YtmkmimgokagimaaGreat
namespace Go.Proofs.YtmkmimgokagimaaGreat
open Go.Ab
attribute [local simp] aW aJ aH aV aU cr ld bf aQ aT cz cw bI bg aC bH gh
theorem BF(g:da)(a b:List Ref):kg g (a++b)=(kg g a&&kg g b):=by
 unfold kg;rw[List.all_append]
theorem I4{f:FuncId}(c:(env.mode f == 2)=true){dep:Nat}{H:ai}{args:List AV}{y:AV}(h : ∃H',cg env dep (.fn f) args H=some (y,H')/\bF H H')(i:flat depth y=true)(r:Ref) :
 nc env true (aF env) (cg env dep) H r (some (.fn (.func f) [] [])) args=some (y,H):=by
 obtain⟨H',g,j⟩:=h
 have a:env.mode f=2:=by simpa using c
 have e:([]++args++[]:List AV)=args:=by simp
 have d:env.sm.f H H'=true:=My j.old
 simp only[nc,ku,m7,if_pos a,e,g,mQ,E3,Eo,cond_true]
 show qn true env.sm H (some (y,H'))=_
 simp only[qn,i,d,Bool.or_true,BN,if_true]
@[simp] theorem adL(y:AV):re AV.undef y=true:=id rfl
def nD(b:fZ)(o:aK):yv:=qR (bT o.h b.ses)
def pt(b:fZ)(o:aK):zw:=tz (bT ⟨o.h.lv,o.h.cats⟩ b.used)
def EI(us0:List Clear)(qs:List ax)(gr0:Int)(b:fZ)(r:cH):Bool:=
 !(nD b r.op).o&&(Av b qs r.user r.op.h.lv r.op.h.cats&&decide ((pt b r.op).opens<(rf us0 qs gr0 r.op.h.lv r.op.h.cats).opens))
def C3(us0:List Clear)(qs:List ax)(gr0:Int)(b:fZ)(r:cH):Bool:=
 (nD b r.op).o&&(Av b qs (nD b r.op).u r.op.h.lv r.op.h.cats&&(decide (r.op.serial=IntKind.i64.wrap ((nD b r.op).s+1))&&(decide ((pt b r.op).ops<(rf us0 qs gr0 r.op.h.lv r.op.h.cats).ops)&&decide (r.code=uR us0 qs gr0 b r.op))))
def EH(qs:List ax)(b:fZ)(r:cH):Bool:=decide (w6 b.us qs b.gr r.gu r.gv r.gc r.gok=0)
section
variable(dep:Nat){H:ai}(hF:Fr H){rb:Ref}{us0:List Clear}{qs:List ax}{gr0:Int}{b:fZ}(hb:Ej H rb us0 qs gr0 b)(hok:pd b)(hul:us0.length<1000000)(hql:qs.length<1000000)
include hF hb hok hul hql
theorem UR(k:UInt8)(u:Int)(q:UInt8)(d:UInt8)(a:UInt32)(l:UInt8)(D:Int)(C:UInt8)(A:UInt32)(y:UInt8)(t:Int)(n:Int)(j:UInt8)(f:UInt32)(e:UInt8)(i:Int)(h:UInt8)(m:UInt32)(c L:Int)(v:UInt8)(w:UInt32)(o:Bool){x:AV}{P:List Int}(I:Sl 1 (rows P) x) :
 ∃H',cg env dep (.fn 145) [.ptr rb 0 0,.agg [a8 k,aI u,a8 q,a8 d,au a,a8 l,aI D,a8 C,au A,a8 y,aI t,aI n,a8 j,au f,a8 e,aI i,a8 h,au m,x,aI c,aI L,a8 v,au w,aB o]] H=some (aB (EI us0 qs gr0 b ⟨k,u,(⟨q,⟨d,a,l⟩,D,⟨⟨⟨C,A,y⟩,t⟩,n⟩,⟨⟨j,f,e⟩,i⟩,⟨h,m⟩,P⟩:aK),c,L,v,w,o⟩),H')/\bF H H':=by
 refine eR (fn:=Tryz.f145) (c:=De) (by kernel_rfl) (by kernel_rfl) (by kernel_rfl) (by kernel_rfl) (by kernel_rfl) ?_
 refine Cp _ _ _ _ _ λg=>?_
 have z : ∀b1:bz,bF H ((⟨dep+1,3,H.gen (dep+1) 3,0⟩,some b1) :: H):=λb1=>bF.cons hF _ _ _
 have X:=left_at (dep+1) (z ⟨24,[.agg [a8 k,aI u,a8 q,a8 d,au a,a8 l,aI D,a8 C,au A,a8 y,aI t,aI n,a8 j,au f,a8 e,aI i,a8 h,au m,x,aI c,aI L,a8 v,au w,aB o]],false,false⟩).fr (hb.grow (z _)) hok hul hql d a
 simp[af,ah,ad,ae,aa, *,wC,I.r]
 refine lO (by kernel_rfl) X λV O=>?_
 have p:=(z _).trans O
 have E:=O.old ⟨dep+1,3,H.gen (dep+1) 3,0⟩ _ (by simp;rfl)
 have G:=hb.grow p
 obtain⟨xu,xq,yu,yq,wu,Z,xr,rs,ru,xh,vh,Q,N,M,T,R,U,h7,W,Y⟩:=G.box
 have F:=Gv (g:=V.get) hok.ses U ⟨d,a,l⟩
 have S:=Uy (dep+1) p.fr G hok hul hql u d a
 have c4:=T.s.cells
 have c5:=R.s.cells
 have c8:=W.cells
 unfold EI nD pt
 simp only
 generalize Av b qs u d a=mn at *
 generalize decide ((tz (bT ⟨d,a⟩ b.used)).opens<(rf us0 qs gr0 d a).opens)=lo at *
 generalize qR (bT ⟨d,a,l⟩ b.ses)=ss at *
 obtain⟨s1,s2,s3⟩:=ss
 cases s1 with
 | true=>simp[E,Q,F,I.r,c4,c5,c8,N.r,M.r,yv.av,p]
 | false=>
  simp[E,Q,F,I.r,c4,c5,c8,N.r,M.r,yv.av]
  refine lO (by kernel_rfl) S λH3 K=>?_
  have J:=p.trans K
  cases mn<;>simp[J]
theorem UQ(k:UInt8)(u:Int)(z:UInt8)(d:UInt8)(a:UInt32)(t:UInt8)(y:Int)(E:UInt8)(D:UInt32)(C:UInt8)(A:Int)(n:Int)(l:UInt8)(f:UInt32)(e:UInt8)(j:Int)(i:UInt8)(m:UInt32)(c W:Int)(v:UInt8)(w:UInt32)(o:Bool){x:AV}{N:List Int}(I:Sl 1 (rows N) x)(O:N.length<1000000) :
 ∃H',cg env dep (.fn 149) [.ptr rb 0 0,.agg [a8 k,aI u,a8 z,a8 d,au a,a8 t,aI y,a8 E,au D,a8 C,aI A,aI n,a8 l,au f,a8 e,aI j,a8 i,au m,x,aI c,aI W,a8 v,au w,aB o]] H=some (aB (C3 us0 qs gr0 b ⟨k,u,(⟨z,⟨d,a,t⟩,y,⟨⟨⟨E,D,C⟩,A⟩,n⟩,⟨⟨l,f,e⟩,j⟩,⟨i,m⟩,N⟩:aK),c,W,v,w,o⟩),H')/\bF H H':=by
 refine eR (fn:=Tryz.f149) (c:=Dc) (by kernel_rfl) (by kernel_rfl) (by kernel_rfl) (by kernel_rfl) (by kernel_rfl) ?_
 refine Cn _ _ _ _ _ λg=>?_
 have F : ∀b1 b2:bz,bF H ((⟨dep+1,5,H.gen (dep+1) 5,0⟩,some b2) :: (⟨dep+1,3,H.gen (dep+1) 3,0⟩,some b1) :: H):=λb1 b2=>⟨by simp(maxDischargeDepth:=12) [ai.get_put,aq,aj,Fr.nil,aw,af,ah,ad,ae,ao,ak,aa, *],λq c V=>by
  have lq:(H.get q).isSome=true:=by rw[V];rfl
  simp[af hF lq,V]⟩
 obtain⟨xu,xq,yu,yq,wu,wq,xr,rs,ru,xh,vh,S,h2,h3,Q,P,R,h7,T,h9⟩:=hb.box
 have l1:(H.get rb).isSome=true:=by rw[S];rfl
 have l6:(H.get rs).isSome=true:=by rw[R];rfl
 have c4:=Q.s.cells
 have c5:=P.s.cells
 have c8:=T.cells
 have L:=λ(H':ai)(h:H'.get rs=some (bj (cF z9 b.ses)))=>Gv (g:=H'.get) hok.ses h ⟨d,a,t⟩
 unfold C3 nD pt
 simp only
 generalize Y:qR (bT ⟨d,a,t⟩ b.ses)=ss at *
 obtain⟨s1,s2,s3⟩:=ss
 simp[af,ah,ad,ae,aa, *,wA,I.r,S,R,L,yv.av]
 refine lO (by kernel_rfl) (left_at (dep+1) (F _ _).fr (hb.grow (F _ _)) hok hul hql _ _) λH4 J=>?_
 have p:=(F _ _).trans J
 have b3:=J.old ⟨dep+1,3,H.gen (dep+1) 3,0⟩ _ (by simp;rfl)
 have K:=J.old ⟨dep+1,5,H.gen (dep+1) 5,0⟩ _ (by simp;rfl)
 have G:=hb.grow p
 have M:=I4 (by kernel_rfl) (Uy (dep+1) J.fr G hok hul hql s2 d a) rfl
 have X:=I4 (by kernel_rfl) (NX (dep+1) J.fr G hok hul hql z d a t y E D C A n l f e j i m I O) rfl
 generalize Av b qs s2 d a=mn at *
 generalize decide ((tz (bT ⟨d,a⟩ b.used)).opens<(rf us0 qs gr0 d a).opens)=lo at *
 generalize decide ((tz (bT ⟨d,a⟩ b.used)).ops<(rf us0 qs gr0 d a).ops)=lp at *
 generalize uR us0 qs gr0 b (⟨z,⟨d,a,t⟩,y,⟨⟨⟨E,D,C⟩,A⟩,n⟩,⟨⟨l,f,e⟩,j⟩,⟨i,m⟩,N⟩:aK)=ve at *
 have Z:=J.fr
 clear hb G Q P T hok L
 cases s1 with
 | false=>simp[b3,K,I.r,mZ,p]
 | true=>
 cases mn with
 | false=>simp[b3,K,I.r,mZ,M,p]
 | true=>
 by_cases U:y=IntKind.i64.wrap (s3+1)
 ·subst U
  cases lp with
  | false=>simp[b3,K,I.r,mZ,M,p]
  | true=>simp[b3,K,I.r,mZ,M,X,p]
 ·simp[b3,K,I.r,mZ,M,U,p]
theorem UP(k:UInt8)(u:Int)(l:UInt8)(C:UInt8)(p:UInt32)(A:UInt8)(z:Int)(y:UInt8)(t:UInt32)(n:UInt8)(m:Int)(j:Int)(h:UInt8)(d:UInt32)(a:UInt8)(f:Int)(e:UInt8)(i:UInt32)(c F:Int)(v:UInt8)(w:UInt32)(o:Bool){x:AV}{L:List Int}(M:Sl 1 (rows L) x) :
 ∃H',cg env dep (.fn 151) [.ptr rb 0 0,.agg [a8 k,aI u,a8 l,a8 C,au p,a8 A,aI z,a8 y,au t,a8 n,aI m,aI j,a8 h,au d,a8 a,aI f,a8 e,au i,x,aI c,aI F,a8 v,au w,aB o]] H=some (aB (EH qs b ⟨k,u,(⟨l,⟨C,p,A⟩,z,⟨⟨⟨y,t,n⟩,m⟩,j⟩,⟨⟨h,d,a⟩,f⟩,⟨e,i⟩,L⟩:aK),c,F,v,w,o⟩),H')/\bF H H':=by
 refine eR (fn:=Tryz.f151) (c:=Db) (by kernel_rfl) (by kernel_rfl) (by kernel_rfl) (by kernel_rfl) (by kernel_rfl) ?_
 refine Cm _ _ _ _ _ λg=>?_
 obtain⟨xu,xq,yu,yq,wu,Z,xr,rs,ru,xh,vh,R,K,J,E,D,h6,h7,I,Y⟩:=hb.box
 have V:(H.get rb).isSome=true:=by rw[R];rfl
 have c4:=λb1=>(E.s.cons hF (dep+1) 3 (some b1)).r
 have c5:=λb1=>(D.s.cons hF (dep+1) 3 (some b1)).r
 have d4:=E.s.cells
 have W:=D.s.cells
 have d8:=I.cells
 have N : ∀b1 b2:bz,bF H ((⟨dep+1,5,H.gen (dep+1) 5,0⟩,some b2) :: (⟨dep+1,3,H.gen (dep+1) 3,0⟩,some b1) :: H):=λb1 b2=>⟨by simp(maxDischargeDepth:=12) [ai.get_put,aq,aj,Fr.nil,aw,af,ah,ad,ae,ao,ak,aa, *],λq c P=>by
  have T:(H.get q).isSome=true:=by rw[P];rfl
  simp[af hF T,P]⟩
 unfold EH
 simp only
 have Q:=hok.few
 by_cases O:w6 b.us qs b.gr F v w o=0
 ·obtain⟨X,G,U⟩:=Lv (gr:=b.gr) E.s.sl D.s.sl (by omega) (by omega) F v w o O
  have z4:=(jL.grow E (bF.cons hF (dep+1) 3 ⟨24,[.agg [a8 k,aI u,a8 l,a8 C,au p,a8 A,aI z,a8 y,au t,a8 n,aI m,aI j,a8 h,au d,a8 a,aI f,a8 e,au i,x,aI c,aI F,a8 v,au w,aB o]],false,false⟩)).refs 6
  have z5:=(jL.grow D (bF.cons hF (dep+1) 3 ⟨24,[.agg [a8 k,aI u,a8 l,a8 C,au p,a8 A,aI z,a8 y,au t,a8 n,aI m,aI j,a8 h,au d,a8 a,aI f,a8 e,au i,x,aI c,aI F,a8 v,au w,aB o]],false,false⟩)).refs 6
  have S:=G.r
  clear hb E D I hok
  simp[af,ah,ad,ae,aa, *,rT,M.r,K.r,J.r,BF]
  done
 ·have U:=Rd (gr:=b.gr) E.s.sl D.s.sl (by omega) (by omega) F v w o O
  clear hb E D I hok
  simp[af,ah,ad,ae,aa, *,rT,M.r,K.r,J.r]
end
end Go.Proofs.YtmkmimgokagimaaGreat
namespace Go.Proofs.YtmkmimgokagimaaGreat
open Go.Ab
attribute [local simp] aW aJ aH aV aU cr ld bf aQ aT cz cw bI bg aC bH gh
structure iM (H:ai) (rb rs ru:Ref) (xh xr:AV) (us0:List Clear) (qs:List ax) (gr0:Int) (b:fZ):Prop where
 box : ∃xu xq yu yq wu wq,H.get rb=some ⟨10,[.agg [xu,xq,aI gr0,yu,yq,aI b.gr,xr,.mp rs,.mp ru,xh]],false,false⟩/\Sl 3 (bZ us0) xu/\Sl 5 (bS qs) xq/\jL 3 (bZ b.us) H yu wu/\jL 5 (bS qs) H yq wq
 ses:H.get rs=some (bj (cF z9 b.ses))
 use:H.get ru=some (bj (cF xV b.used))
 eO:Own 17 (cI b.eO) H xh
 one:xr.cells=[xr]/\xr.one=true
 sep:rb≠rs/\rb≠ru/\rs≠ru/\xh.at?≠some rb/\xh.at?≠some rs/\xh.at?≠some ru
 t43 : ∀r,xh.at?=some r->r.t=43
theorem nm{z:Nat}{es:List AV}{H:ai}{x:AV}(h:Own z es H x) : ∃y,kB z es H x y:=by
 rcases h with ⟨rfl,rfl⟩ | ⟨r,rfl,a⟩
 ·exact⟨ct,.inl ⟨rfl,.inl ⟨rfl,rfl⟩⟩⟩
 ·exact⟨_,.inr ⟨r,none,false,rfl,a,rfl,dc _⟩⟩
theorem iM.at{H:ai}{rb rs ru:Ref}{xh xr:AV}{us0:List Clear}{qs:List ax}{gr0:Int}{b:fZ}(h:iM H rb rs ru xh xr us0 qs gr0 b):Ej H rb us0 qs gr0 b:=by
 obtain⟨i,a,l,m,o,d,e,n,f,g,c⟩:=h.box
 obtain⟨j,k⟩:=nm h.eO
 exact⟨i,a,l,m,o,d,xr,rs,ru,xh,j,e,n,f,g,c,h.ses,h.use,k,h.one⟩
structure Qw (H H':ai) (rb rs ru:Ref) (xh xh':AV):Prop where
 fr:Fr H'
 old : ∀q c,H.get q=some c->q≠rb->q≠rs->q≠ru->xh.at?≠some q->H'.get q=some c/\xh'.at?≠some q
theorem jL.cr{z:Nat}{es:List AV}{H H':ai}{x y:AV}(h:jL z es H x y)(g : ∀q c,H.get q=some c->c.kH=true->H'.get q=some c):jL z es H' x y:=by
 rcases h with h | ⟨r,c,rfl,d,rfl,a⟩
 ·exact .inl h
 ·exact .inr ⟨r,c,rfl,g _ _ d rfl,rfl,a⟩
theorem iM.upd{H H':ai}{rb rs ru:Ref}{xh xr:AV}{us0:List Clear}{qs:List ax}{gr0:Int}{b b':fZ}(h:iM H rb rs ru xh xr us0 qs gr0 b)(A:b'.us=b.us)(l:b'.gr=b.gr)(m:b'.eO=b.eO)
 (hF:Fr H') (C:H'.get rs=some (bj (cF z9 b'.ses))) (w:H'.get ru=some (bj (cF xV b'.used))) (d : ∀q c,H.get q=some c->q≠rs->q≠ru->H'.get q=some c) :
 iM H' rb rs ru xh xr us0 qs gr0 b'/\Qw H H' rb rs ru xh xh:=by
 obtain⟨D,z,t,u,x,n,i,F,v,y,G⟩:=h.box
 have f : ∀q c,H.get q=some c->c.kH=true->H'.get q=some c:=by
  intro q c a g
  refine d q c a ?_ ?_
  ·rintro rfl;rw[h.ses]at a;cases a;exact absurd g (by simp[bj])
  ·rintro rfl;rw[h.use]at a;cases a;exact absurd g (by simp[bj])
 refine⟨⟨⟨D,z,t,u,x,n,?_,F,v,?_,G.cr f⟩,C,w,?_,h.one,h.sep,h.t43⟩,⟨hF,λq c a _ o p k=>⟨d q c a o p,k⟩⟩⟩
 ·rw[l];exact d _ _ i h.sep.1 h.sep.2.1
 ·rw[A];exact y.cr f
 ·rw[m]
  rcases h.eO with j | ⟨r,rfl,E⟩
  ·exact .inl j
  ·exact .inr ⟨r,rfl,d _ _ E (λe=>h.sep.2.2.2.2.1 (by rw[e];rfl)) (λe=>h.sep.2.2.2.2.2 (by rw[e];rfl))⟩
def B0(b:fZ)(o:aK)(u:Int):fZ:=
 {b with ses:=jq o.h (yv.av ⟨true,u,0⟩) b.ses,used:=jq ⟨o.h.lv,o.h.cats⟩ (zw.av { pt b o with opens:=IntKind.i64.wrap ((pt b o).opens+1)}) b.used}
def Hd(b:fZ)(o:aK)(a:Int):zw := { pt b o with ops:=IntKind.i64.wrap ((pt b o).ops+1),cells:=if a=0/\o.kind=1 then IntKind.i64.wrap ((pt b o).cells+o.s.many) else (pt b o).cells}
def vL(b:fZ)(o:aK)(a:Int)(y:AV):fZ:=
 {b with ses:=jq o.h (yv.av { nD b o with s:=IntKind.i64.wrap ((nD b o).s+1)}) b.ses,used:=jq ⟨o.h.lv,o.h.cats⟩ (zw.av (Hd b o a)) b.used,eO:=if a=0 then b.eO++[(o,y)] else b.eO}
def C9(b:fZ)(u:Int)(v:UInt8)(c:UInt32)(ok:Bool):fZ := { b with us:=b.us.set u.toNat ⟨v,c,ok⟩,gr:=IntKind.i64.wrap (b.gr - 1)}
theorem V7{H:ai}{rs:Ref}{l:List (sj × AV)}(a:H.get rs=some (bj (cF z9 l)))(h:sj)(x:AV):dQ env.P H 126 (some (.mp rs)) (some (.agg [a8 h.lv,au h.cats,a8 h.num])) (some x)=some (AV.undef,H.put rs (some (bj (cF z9 (jq h x l))))):=
 uQ Ki G3 (t:=126) (et:=73) (by kernel_rfl) a h x
theorem V6{H:ai}{ru:Ref}{l:List (jy × AV)}(a:H.get ru=some (bj (cF xV l)))(v:jy)(x:AV):dQ env.P H 127 (some (.mp ru)) (some (.agg [a8 v.lv,au v.cats])) (some x)=some (AV.undef,H.put ru (some (bj (cF xV (jq v x l))))):=
 uQ Kh GV (t:=127) (et:=81) (by kernel_rfl) a v x
section
variable(dep:Nat){H:ai}(hF:Fr H){rb rs ru:Ref}{xh xr:AV}{us0:List Clear}{qs:List ax}{gr0:Int}{b:fZ}(hb:iM H rb rs ru xh xr us0 qs gr0 b)(hok:pd b)
include hF hb hok
theorem Z4(k:UInt8)(u:Int)(z:UInt8)(d:UInt8)(a:UInt32)(t:UInt8)(F:Int)(E:UInt8)(D:UInt32)(C:UInt8)(A:Int)(p:Int)(m:UInt8)(i:UInt32)(e:UInt8)(l:Int)(j:UInt8)(n:UInt32)(c V:Int)(v:UInt8)(w:UInt32)(o:Bool){x:AV}{L:List Int}(hx:Sl 1 (rows L) x) :
 ∃H',cg env dep (.fn 148) [.ptr rb 0 0,.agg [a8 k,aI u,a8 z,a8 d,au a,a8 t,aI F,a8 E,au D,a8 C,aI A,aI p,a8 m,au i,a8 e,aI l,a8 j,au n,x,aI c,aI V,a8 v,au w,aB o]] H=some (.v (.tuple #[]),H')/\iM H' rb rs ru xh xr us0 qs gr0 (B0 b (⟨z,⟨d,a,t⟩,F,⟨⟨⟨E,D,C⟩,A⟩,p⟩,⟨⟨m,i,e⟩,l⟩,⟨j,n⟩,L⟩:aK) u)/\Qw H H' rb rs ru xh xh:=by
 have N:bN env Tryz.f148 (dep+1) [.code Dd] (rL 0 [.ptr rb 0 0,.agg [a8 k,aI u,a8 z,a8 d,au a,a8 t,aI F,a8 E,au D,a8 C,aI A,aI p,a8 m,au i,a8 e,aI l,a8 j,au n,x,aI c,aI V,a8 v,au w,aB o]]) H λy P=>y = .v (.tuple #[])/\iM P rb rs ru xh xr us0 qs gr0 (B0 b (⟨z,⟨d,a,t⟩,F,⟨⟨⟨E,D,C⟩,A⟩,p⟩,⟨⟨m,i,e⟩,l⟩,⟨j,n⟩,L⟩:aK) u)/\Qw H P rb rs ru xh xh:=by
  refine Co _ _ _ _ _ λg=>?_
  have G:=λH'=>hb.upd (H':=H') (b':=B0 b (⟨z,⟨d,a,t⟩,F,⟨⟨⟨E,D,C⟩,A⟩,p⟩,⟨⟨m,i,e⟩,l⟩,⟨j,n⟩,L⟩:aK) u) rfl rfl rfl
  obtain⟨xu,xq,yu,yq,wu,wq,M,S,h3,Q,O⟩:=hb.box
  have R:=hb.ses
  have T:=hb.use
  have c4:=Q.s.cells
  have c5:=O.s.cells
  have c8:xh.cells=[xh]/\xh.one=true:=by obtain⟨_,Y⟩:=nm hb.eO;exact Y.cells
  have c9:=hb.one
  have l1:(H.get rb).isSome=true:=by rw[M];rfl
  have l6:(H.get rs).isSome=true:=by rw[R];rfl
  have l7:(H.get ru).isSome=true:=by rw[T];rfl
  obtain⟨s1,s2,Z,_⟩:=hb.sep
  have W:=s1.symm
  have s2':=s2.symm
  have X:=Z.symm
  have K:=λ(H':ai)(h:H'.get rs=some (bj (cF z9 b.ses)))=>V7 h ⟨d,a,t⟩
  have I:=λ(H':ai)(h:H'.get ru=some (bj (cF xV b.used)))=>V6 h ⟨d,a⟩
  have J:=λ(H':ai)(h:H'.get ru=some (bj (cF xV b.used)))=>DK (g:=H'.get) hok.used h ⟨d,a⟩
  simp only[B0,pt]at G
  unfold B0 pt
  simp only
  generalize tz (bT ⟨d,a⟩ b.used)=uu at *
  obtain⟨u1,u2,u3⟩:=uu
  clear hb Q O hok
  simp only[yv.av,zw.av]at G
  simp[af,ah,ad,ae,aa, *,wB,hx.r,M,R,T,J,K,I,yv.av,zw.av]
  clear K I J
  refine G _ ?_ ?_ ?_ λq cc U n1 n2=>?_
  ·exact by simp(maxDischargeDepth:=12) [ai.get_put,aq,aj,Fr.nil,aw,af,ah,ad,ae,ao,ak,aa, *]
  ·exact by simp(maxDischargeDepth:=12) [ai.get_put,aq,aj,Fr.nil,aw,af,ah,ad,ae,ao,ak,aa, *]
  ·exact by simp(maxDischargeDepth:=12) [ai.get_put,aq,aj,Fr.nil,aw,af,ah,ad,ae,ao,ak,aa, *]
  ·have lq:(H.get q).isSome=true:=by rw[U];rfl
   simp[af hF lq,ai.get_put,n1,n2,n1.symm,n2.symm,U]
 obtain⟨y,H',M,rfl,S⟩:=lB (f:=148) (by kernel_rfl) (by kernel_rfl) (by kernel_rfl) (by kernel_rfl) (by kernel_rfl) N
 exact⟨H',M,S⟩
theorem Z2(k:UInt8)(u:Int)(p:UInt8)(G:UInt8)(A:UInt32)(F:UInt8)(E:Int)(D:UInt8)(C:UInt32)(z:UInt8)(t:Int)(m:Int)(j:UInt8)(d:UInt32)(a:UInt8)(i:Int)(h:UInt8)(l:UInt32)(c n:Int)(v:UInt8)(w:UInt32)(o:Bool){x:AV}{al:List Int}(hx:Sl 1 (rows al) x)(hql:qs.length<1000000)(he:w6 b.us qs b.gr n v w o=0) :
 ∃H',cg env dep (.fn 153) [.ptr rb 0 0,.agg [a8 k,aI u,a8 p,a8 G,au A,a8 F,aI E,a8 D,au C,a8 z,aI t,aI m,a8 j,au d,a8 a,aI i,a8 h,au l,x,aI c,aI n,a8 v,au w,aB o]] H=some (.v (.tuple #[]),H')/\iM H' rb rs ru xh xr us0 qs gr0 (C9 b n v w o)/\Qw H H' rb rs ru xh xh:=by
 have Q:bN env Tryz.f153 (dep+1) [.code Da] (rL 0 [.ptr rb 0 0,.agg [a8 k,aI u,a8 p,a8 G,au A,a8 F,aI E,a8 D,au C,a8 z,aI t,aI m,a8 j,au d,a8 a,aI i,a8 h,au l,x,aI c,aI n,a8 v,au w,aB o]]) H λy S=>y = .v (.tuple #[])/\iM S rb rs ru xh xr us0 qs gr0 (C9 b n v w o)/\Qw H S rb rs ru xh xh:=by
  refine Cl _ _ _ _ _ λg=>?_
  obtain⟨V,U,yu,yq,wu,wq,R,M,T,J,I⟩:=hb.box
  have Y:=hb.ses
  have h7:=hb.use
  have c8:xh.cells=[xh]/\xh.one=true:=by obtain⟨_,hs⟩:=nm hb.eO;exact hs.cells
  have c9:=hb.one
  have l1:(H.get rb).isSome=true:=by rw[R];rfl
  have W:=hok.few
  have c4:=λb1=>(J.s.cons hF (dep+1) 3 (some b1)).r
  have c5:=λb1=>(I.s.cons hF (dep+1) 3 (some b1)).r
  have d4:=J.s.cells
  have d5:=I.s.cells
  obtain⟨P,K,hA⟩:=Lv (gr:=b.gr) J.s.sl I.s.sl (by omega) (by omega) n v w o he
  have z4:=(jL.grow J (bF.cons hF (dep+1) 3 ⟨24,[.agg [a8 k,aI u,a8 p,a8 G,au A,a8 F,aI E,a8 D,au C,a8 z,aI t,aI m,a8 j,au d,a8 a,aI i,a8 h,au l,x,aI c,aI n,a8 v,au w,aB o]],false,false⟩)).refs 6
  have z5:=(jL.grow I (bF.cons hF (dep+1) 3 ⟨24,[.agg [a8 k,aI u,a8 p,a8 G,au A,a8 F,aI E,a8 D,au C,a8 z,aI t,aI m,a8 j,au d,a8 a,aI i,a8 h,au l,x,aI c,aI n,a8 v,au w,aB o]],false,false⟩)).refs 6
  have hyr:=K.r
  have L : ∀H',Fr H'->H'.get rb=some ⟨10,[.agg [V,U,aI gr0,.bW 3 (bZ (b.us.set n.toNat ⟨v,w,o⟩)) none,P,aI (IntKind.i64.wrap (b.gr - 1)),xr,.mp rs,.mp ru,xh]],false,false⟩->(∀q c,H.get q=some c->q≠rb->H'.get q=some c) ->
   iM H' rb rs ru xh xr us0 qs gr0 (C9 b n v w o)/\Qw H H' rb rs ru xh xh:=by
   intro H' f1 f2 N
   refine⟨⟨⟨V,U,_,P,_,P,f2,M,T,jL.of (Sl.mk _ _) H',jL.of K H'⟩,N _ _ Y hb.sep.1.symm,N _ _ h7 hb.sep.2.1.symm,?_,c9,hb.sep,hb.t43⟩,⟨f1,λq c O n1 n2 n3 Z=>⟨N q c O n1,Z⟩⟩⟩
   rcases hb.eO with X | ⟨r,rfl,hr⟩
   ·exact .inl X
   ·exact .inr ⟨r,rfl,N _ _ hr (λe=>hb.sep.2.2.2.1 (by rw[e];rfl))⟩
  clear hb J I hok
  simp[af,ah,ad,ae,aa, *,wz,hx.r,M.r,T.r,BF]
  refine L _ ?_ ?_ λq cc O n1=>?_
  ·exact by simp(maxDischargeDepth:=12) [ai.get_put,aq,aj,Fr.nil,aw,af,ah,ad,ae,ao,ak,aa, *]
  ·exact by simp(maxDischargeDepth:=12) [ai.get_put,aq,aj,Fr.nil,aw,af,ah,ad,ae,ao,ak,aa, *]
  ·have lq:(H.get q).isSome=true:=by rw[O];rfl
   simp[af hF lq,ai.get_put,n1,n1.symm,O]
 obtain⟨y,H',R,rfl,M⟩:=lB (f:=153) (by kernel_rfl) (by kernel_rfl) (by kernel_rfl) (by kernel_rfl) (by kernel_rfl) Q
 exact⟨H',R,M⟩
end
end Go.Proofs.YtmkmimgokagimaaGreat
namespace Go.Proofs.YtmkmimgokagimaaGreat
open Go.Ab
attribute [local simp] aW aJ aH aV aU cr ld bf aQ aT cz cw bI bg aC bH gh
theorem iM.app{H H':ai}{rb rs ru:Ref}{xh xh' xr:AV}{us0:List Clear}{qs:List ax}{gr0:Int}{b b':fZ}(h:iM H rb rs ru xh xr us0 qs gr0 b)(u:b'.us=b.us)(v:b'.gr=b.gr)
 (hF:Fr H') (y:H'.get rs=some (bj (cF z9 b'.ses))) (D:H'.get ru=some (bj (cF xV b'.used))) (w:Own 17 (cI b'.eO) H' xh') (I : ∀r,xh'.at?=some r->r.t=43)
 (m : ∀g f i j,H.get rb=some ⟨10,[.agg [g,f,aI gr0,i,j,aI b.gr,xr,.mp rs,.mp ru,xh]],false,false⟩->H'.get rb=some ⟨10,[.agg [g,f,aI gr0,i,j,aI b.gr,xr,.mp rs,.mp ru,xh']],false,false⟩)
 (d : ∀q c,H.get q=some c->xh'.at?≠some q/\(q≠rb->q≠rs->q≠ru->xh.at?≠some q->H'.get q=some c)) :
 iM H' rb rs ru xh' xr us0 qs gr0 b'/\Qw H H' rb rs ru xh xh':=by
 obtain⟨g,f,i,j,E,x,l,A,C,G,F⟩:=h.box
 have n : ∀q c,H.get q=some c->c.kH=true->H'.get q=some c:=by
  intro q c a k
  refine(d q c a).2 ?_ ?_ ?_ ?_
  ·rintro rfl;rw[l]at a;cases a;exact absurd k (by simp)
  ·rintro rfl;rw[h.ses]at a;cases a;exact absurd k (by simp[bj])
  ·rintro rfl;rw[h.use]at a;cases a;exact absurd k (by simp[bj])
  ·intro e
   rcases h.eO with ⟨rfl,_⟩ | ⟨r,rfl,z⟩
   ·cases e
   ·simp only[AV.at?,dW]at e;subst e;rw[z]at a;cases a;exact absurd k (by simp)
 refine⟨⟨⟨g,f,i,j,E,x,?_,A,C,?_,F.cr n⟩,y,D,w,h.one,⟨h.sep.1,h.sep.2.1,h.sep.2.2.1,(d _ _ l).1,(d _ _ h.ses).1,(d _ _ h.use).1⟩,I⟩,⟨hF,λq c a n1 n2 p o=>⟨(d q c a).2 n1 n2 p o,(d q c a).1⟩⟩⟩
 ·rw[v];exact m _ _ _ _ l
 ·rw[u];exact G.cr n
theorem C8{H:ai}{rs:Ref}{l:List (sj × AV)}(j:H.get rs=some (bj (cF z9 l)))(h:sj){K:AV->ai->Prop}{m:Mk (iO env.P H 126 (some (.mp rs)) (some (.agg [a8 h.lv,au h.cats,a8 h.num])),K)}
 (g : ∀(i:Nat) a,(∀(H':ai) x,H'.get rs=some (bj (cF z9 a))->fE H' (some (.mp rs)) (some (aI i)) (some x)=some (AV.undef,H'.put rs (some (bj (cF z9 (jq h x l)))))) ->∀z,K (.tup [z,aI i]) (H.put rs (some (bj (cF z9 a))))) :
 m4 (iO env.P H 126 (some (.mp rs)) (some (.agg [a8 h.lv,au h.cats,a8 h.num]))) K m:=by
 obtain⟨i,a,d,⟨x0,c⟩,e⟩:=Bp Ki G3 (t:=126) (et:=73) (by kernel_rfl) (z := .agg [aB false,aI 0,aI 0]) (by kernel_rfl) j h
 refine D9 d (g i a (λH' x f=>?_) _)
 rw[<-e x]
 exact zJ f c _ x
theorem C7{H:ai}{ru:Ref}{l:List (jy × AV)}(h:H.get ru=some (bj (cF xV l)))(v:jy){K:AV->ai->Prop}{m:Mk (iO env.P H 127 (some (.mp ru)) (some (.agg [a8 v.lv,au v.cats])),K)}
 (g : ∀(i:Nat) a,(∀(H':ai) x,H'.get ru=some (bj (cF xV a))->fE H' (some (.mp ru)) (some (aI i)) (some x)=some (AV.undef,H'.put ru (some (bj (cF xV (jq v x l)))))) ->∀z,K (.tup [z,aI i]) (H.put ru (some (bj (cF xV a))))) :
 m4 (iO env.P H 127 (some (.mp ru)) (some (.agg [a8 v.lv,au v.cats]))) K m:=by
 obtain⟨i,a,d,⟨x0,c⟩,e⟩:=Bp Kh GV (t:=127) (et:=81) (by kernel_rfl) (z := .agg [a8 0,au 0,aI 0,aI 0,aI 0]) (by kernel_rfl) h v
 refine D9 d (g i a (λH' x f=>?_) _)
 rw[<-e x]
 exact zJ f c _ x
section
variable(dep:Nat){H:ai}(hF:Fr H){rb rs ru:Ref}{xh xr:AV}{us0:List Clear}{qs:List ax}{gr0:Int}{b:fZ}(hb:iM H rb rs ru xh xr us0 qs gr0 b)(hok:pd b)
include hF hb hok
theorem Z3(k:UInt8)(u:Int)(A:UInt8)(d:UInt8)(a:UInt32)(p:UInt8)(G:Int)(F:UInt8)(E:UInt32)(D:UInt8)(C:Int)(z:Int)(n:UInt8)(j:UInt32)(e:UInt8)(m:Int)(i:UInt8)(t:UInt32)(c Y:Int)(v:UInt8)(w:UInt32)(o:Bool){x:AV}{O:List Int}(hx:Sl 1 (rows O) x)(N:c≠0) :
 ∃H',cg env dep (.fn 150) [.ptr rb 0 0,.agg [a8 k,aI u,a8 A,a8 d,au a,a8 p,aI G,a8 F,au E,a8 D,aI C,aI z,a8 n,au j,a8 e,aI m,a8 i,au t,x,aI c,aI Y,a8 v,au w,aB o]] H=some (.v (.tuple #[]),H')/\iM H' rb rs ru xh xr us0 qs gr0 (vL b (⟨A,⟨d,a,p⟩,G,⟨⟨⟨F,E,D⟩,C⟩,z⟩,⟨⟨n,j,e⟩,m⟩,⟨i,t⟩,O⟩:aK) c ct)/\Qw H H' rb rs ru xh xh:=by
 have Q:bN env Tryz.f150 (dep+1) [.code wo] (rL 0 [.ptr rb 0 0,.agg [a8 k,aI u,a8 A,a8 d,au a,a8 p,aI G,a8 F,au E,a8 D,aI C,aI z,a8 n,au j,a8 e,aI m,a8 i,au t,x,aI c,aI Y,a8 v,au w,aB o]]) H λy S=>y = .v (.tuple #[])/\iM S rb rs ru xh xr us0 qs gr0 (vL b (⟨A,⟨d,a,p⟩,G,⟨⟨⟨F,E,D⟩,C⟩,z⟩,⟨⟨n,j,e⟩,m⟩,⟨i,t⟩,O⟩:aK) c ct)/\Qw H S rb rs ru xh xh:=by
  refine vV _ _ _ _ _ λg=>?_
  have J:=λH'=>hb.upd (H':=H') (b':=vL b (⟨A,⟨d,a,p⟩,G,⟨⟨⟨F,E,D⟩,C⟩,z⟩,⟨⟨n,j,e⟩,m⟩,⟨i,t⟩,O⟩:aK) c ct) rfl rfl (by simp[vL,N])
  obtain⟨xu,xq,yu,yq,wu,wq,P,V,h3,T,R⟩:=hb.box
  have U:=hb.ses
  have W:=hb.use
  have c4:=T.s.cells
  have c5:=R.s.cells
  have c8:xh.cells=[xh]/\xh.one=true:=by obtain⟨_,hs⟩:=nm hb.eO;exact hs.cells
  have c9:=hb.one
  have l1:(H.get rb).isSome=true:=by rw[P];rfl
  have l6:(H.get rs).isSome=true:=by rw[U];rfl
  have l7:(H.get ru).isSome=true:=by rw[W];rfl
  obtain⟨s1,s2,s3,_⟩:=hb.sep
  have Z:=s1.symm
  have s2':=s2.symm
  have s3':=s3.symm
  have L:=λ(H':ai)(h:H'.get ru=some (bj (cF xV b.used)))=>DK (g:=H'.get) hok.used h ⟨d,a⟩
  have I:=λ(H':ai)(h:H'.get rs=some (bj (cF z9 b.ses)))=>Gv (g:=H'.get) hok.ses h ⟨d,a,p⟩
  simp only[vL,Hd,pt,nD,N,false_and,if_false]at J
  unfold vL Hd pt nD
  simp only[N,false_and,if_false]
  generalize tz (bT ⟨d,a⟩ b.used)=uu at *
  obtain⟨u1,u2,u3⟩:=uu
  generalize qR (bT ⟨d,a,p⟩ b.ses)=ss at *
  obtain⟨t1,t2,t3⟩:=ss
  clear hb T R hok
  simp only[yv.av,zw.av]at J
  simp[af,ah,ad,ae,aa, *,jF,hx.r,P,U,W,L,I,yv.av,zw.av,mZ,re,jA,wT,N]
  refine C8 (l:=b.ses) ?_ ⟨d,a,p⟩ λi1 m1 M z1=>?_
  ·exact by simp(maxDischargeDepth:=12) [ai.get_put,aq,aj,Fr.nil,aw,af,ah,ad,ae,ao,ak,aa, *]
  simp[af,ah,ad,ae,aa, *,ai.get_put,M]
  refine C7 (l:=b.used) ?_ ⟨d,a⟩ λi2 m2 K z2=>?_
  ·exact by simp(maxDischargeDepth:=12) [ai.get_put,aq,aj,Fr.nil,aw,af,ah,ad,ae,ao,ak,aa, *]
  simp[af,ah,ad,ae,aa, *,ai.get_put,K]
  clear L I M K
  refine J _ ?_ ?_ ?_ λq cc X n1 n2=>?_
  ·exact by simp(maxDischargeDepth:=12) [ai.get_put,aq,aj,Fr.nil,aw,af,ah,ad,ae,ao,ak,aa, *]
  ·exact by simp(maxDischargeDepth:=12) [ai.get_put,aq,aj,Fr.nil,aw,af,ah,ad,ae,ao,ak,aa, *]
  ·exact by simp(maxDischargeDepth:=12) [ai.get_put,aq,aj,Fr.nil,aw,af,ah,ad,ae,ao,ak,aa, *]
  ·have lq:(H.get q).isSome=true:=by rw[X];rfl
   simp[af hF lq,ai.get_put,n1,n2,n1.symm,n2.symm,X]
 obtain⟨y,H',P,rfl,V⟩:=lB (f:=150) (by kernel_rfl) (by kernel_rfl) (by kernel_rfl) (by kernel_rfl) (by kernel_rfl) Q
 exact⟨H',P,V⟩
theorem Xa(k:UInt8)(u:Int)(F:UInt8)(a:UInt8)(d:UInt32)(m:UInt8)(L:Int)(I:UInt8)(K:UInt32)(G:UInt8)(J:Int)(j:Int)(A:UInt8)(E:UInt32)(D:UInt8)(p:Int)(n:UInt8)(C:UInt32)(g1:Int)(v:UInt8)(w:UInt32)(o:Bool){x:AV}{V:List Int}(hx:Sl 1 (rows V) x)(hal:V.length<1000000) :
 ∃H' xh',cg env dep (.fn 150) [.ptr rb 0 0,.agg [a8 k,aI u,a8 F,a8 a,au d,a8 m,aI L,a8 I,au K,a8 G,aI J,aI j,a8 A,au E,a8 D,aI p,a8 n,au C,x,aI 0,aI g1,a8 v,au w,aB o]] H=some (.v (.tuple #[]),H')/\iM H' rb rs ru xh' xr us0 qs gr0 (vL b (⟨F,⟨a,d,m⟩,L,⟨⟨⟨I,K,G⟩,J⟩,j⟩,⟨⟨A,E,D⟩,p⟩,⟨n,C⟩,V⟩:aK) 0 (u4 x))/\Qw H H' rb rs ru xh xh':=by
 obtain⟨y,ht,hy,hT⟩:=Tt F a d m L I K G J j A E D p n C hx hal
 rw[<-ht]
 clear ht
 have hgo:bN env Tryz.f150 (dep+1) [.code wo] (rL 0 [.ptr rb 0 0,.agg [a8 k,aI u,a8 F,a8 a,au d,a8 m,aI L,a8 I,au K,a8 G,aI J,aI j,a8 A,au E,a8 D,aI p,a8 n,au C,x,aI 0,aI g1,a8 v,au w,aB o]]) H λz H1=>z = .v (.tuple #[]) /\∃xh',iM H1 rb rs ru xh' xr us0 qs gr0 (vL b (⟨F,⟨a,d,m⟩,L,⟨⟨⟨I,K,G⟩,J⟩,j⟩,⟨⟨A,E,D⟩,p⟩,⟨n,C⟩,V⟩:aK) 0 y)/\Qw H H1 rb rs ru xh xh':=by
  refine vV _ _ _ _ _ λg=>?_
  obtain⟨xu,xq,yu,yq,wu,wq,W,h2,h3,h4,h5⟩:=hb.box
  have h6:=hb.ses
  have h7:=hb.use
  have c4:=h4.s.cells
  have c5:=h5.s.cells
  have c8:xh.cells=[xh]/\xh.one=true:=by obtain⟨_,hs⟩:=nm hb.eO;exact hs.cells
  have c9:=hb.one
  have l1:(H.get rb).isSome=true:=by rw[W];rfl
  have l6:(H.get rs).isSome=true:=by rw[h6];rfl
  have l7:(H.get ru).isSome=true:=by rw[h7];rfl
  have hyr:=hy.r
  obtain⟨s1,s2,s3,s4,s5,s6⟩:=hb.sep
  have s1':=s1.symm
  have s2':=s2.symm
  have s3':=s3.symm
  have P:=λ(H':ai)(h:H'.get ru=some (bj (cF xV b.used)))=>DK (g:=H'.get) hok.used h ⟨a,d⟩
  have M:=λ(H':ai)(h:H'.get rs=some (bj (cF z9 b.ses)))=>Gv (g:=H'.get) hok.ses h ⟨a,d,m⟩
  have hmany:=hok.many
  have heo:cI (vL b (⟨F,⟨a,d,m⟩,L,⟨⟨⟨I,K,G⟩,J⟩,j⟩,⟨⟨A,E,D⟩,p⟩,⟨n,C⟩,V⟩:aK) 0 y).eO=cI b.eO++[.agg [a8 F,a8 a,au d,a8 m,aI L,a8 I,au K,a8 G,aI J,aI j,a8 A,au E,a8 D,aI p,a8 n,au C,y]]:=by simp[vL,cI,zh]
  have hds:(vL b (⟨F,⟨a,d,m⟩,L,⟨⟨⟨I,K,G⟩,J⟩,j⟩,⟨⟨A,E,D⟩,p⟩,⟨n,C⟩,V⟩:aK) 0 y).ses=jq ⟨a,d,m⟩ (yv.av { qR (bT ⟨a,d,m⟩ b.ses)with s:=IntKind.i64.wrap ((qR (bT ⟨a,d,m⟩ b.ses)).s+1)}) b.ses:=rfl
  have hdu:(vL b (⟨F,⟨a,d,m⟩,L,⟨⟨⟨I,K,G⟩,J⟩,j⟩,⟨⟨A,E,D⟩,p⟩,⟨n,C⟩,V⟩:aK) 0 y).used=jq ⟨a,d⟩ (zw.av { tz (bT ⟨a,d⟩ b.used)with ops:=IntKind.i64.wrap ((tz (bT ⟨a,d⟩ b.used)).ops+1),cells:=if F=1 then IntKind.i64.wrap ((tz (bT ⟨a,d⟩ b.used)).cells+j) else (tz (bT ⟨a,d⟩ b.used)).cells}) b.used:=by
   simp[vL,Hd,pt]
  have X:=jD b.eO
  generalize tz (bT ⟨a,d⟩ b.used)=uu at *
  obtain⟨u1,u2,u3⟩:=uu
  generalize qR (bT ⟨a,d,m⟩ b.ses)=ss at *
  obtain⟨t1,t2,t3⟩:=ss
  have eO:=hb.eO
  have Z:=hb.t43
  have T:=λH' xh'=>iM.app (H':=H') (xh':=xh') (b':=vL b (⟨F,⟨a,d,m⟩,L,⟨⟨⟨I,K,G⟩,J⟩,j⟩,⟨⟨A,E,D⟩,p⟩,⟨n,C⟩,V⟩:aK) 0 y) hb rfl rfl
  rw[hds,hdu,heo]at T
  simp only[yv.av,zw.av]at T
  clear hds hdu heo hb h4 h5
  have hbx : ∀(xh':AV)(H':ai),H'.get rb=some ⟨10,[.agg [xu,xq,aI gr0,yu,yq,aI b.gr,xr,.mp rs,.mp ru,xh']],false,false⟩ ->∀xu xq yu yq,H.get rb=some ⟨10,[.agg [xu,xq,aI gr0,yu,yq,aI b.gr,xr,.mp rs,.mp ru,xh]],false,false⟩->H'.get rb=some ⟨10,[.agg [xu,xq,aI gr0,yu,yq,aI b.gr,xr,.mp rs,.mp ru,xh']],false,false⟩:=by
   intro xh' H' h xu' xq' yu' yq' h'
   rw[W]at h'
   simp only[dW,bz.mk.injEq,zF,AV.agg.injEq,and_true,true_and]at h'
   obtain⟨rfl,rfl,rfl,rfl⟩:=h'
   exact h
  have i : ∀(H':ai)(xh':AV),Fr H'->H'.get rs=some (bj (cF z9 (jq ⟨a,d,m⟩ (.agg [aB t1,aI t2,aI (IntKind.i64.wrap (t3+1))]) b.ses))) ->
   H'.get ru=some (bj (cF xV (jq ⟨a,d⟩ (.agg [a8 0,au 0,aI u1,aI (IntKind.i64.wrap (u2+1)),aI (if F=1 then IntKind.i64.wrap (u3+j) else u3)]) b.used)))->Own 17 (cI b.eO++[.agg [a8 F,a8 a,au d,a8 m,aI L,a8 I,au K,a8 G,aI J,aI j,a8 A,au E,a8 D,aI p,a8 n,au C,y]]) H' xh'->(∀r,xh'.at?=some r->r.t=43) ->
   H'.get rb=some ⟨10,[.agg [xu,xq,aI gr0,yu,yq,aI b.gr,xr,.mp rs,.mp ru,xh']],false,false⟩->(∀q c,H.get q=some c->xh'.at?≠some q/\(q≠rb->q≠rs->q≠ru->xh.at?≠some q->H'.get q=some c)) ->
   ∃xh',iM H' rb rs ru xh' xr us0 qs gr0 (vL b (⟨F,⟨a,d,m⟩,L,⟨⟨⟨I,K,G⟩,J⟩,j⟩,⟨⟨A,E,D⟩,p⟩,⟨n,C⟩,V⟩:aK) 0 y)/\Qw H H' rb rs ru xh xh':=
   λH' xh' a1 a2 a3 a4 at' a5 a6=>⟨xh',T H' xh' a1 a2 a3 a4 at' (hbx _ _ a5) a6⟩
  clear T hbx
  generalize cI b.eO=eo at *
  generalize b.eO.length=nh at *
  clear hok
  generalize vL b (⟨F,⟨a,d,m⟩,L,⟨⟨⟨I,K,G⟩,J⟩,j⟩,⟨⟨A,E,D⟩,p⟩,⟨n,C⟩,V⟩:aK) 0 y=B' at *
  revert i
  rcases eO with ⟨rfl,rfl⟩ | ⟨r,rfl,h8⟩
  ·clear X Z hmany nh
   by_cases R:F=1
   ·subst R
    simp[af,ah,ad,ae,aa, *,jF,hx.r,W,h6,h7,P,M,yv.av,zw.av,mZ,re,jA,wT]
    intro i
    refine C8 (l:=b.ses) ?_ ⟨a,d,m⟩ λi1 m1 N z1=>?_
    ·clear i;exact by simp(maxDischargeDepth:=12) [ai.get_put,aq,aj,Fr.nil,aw,af,ah,ad,ae,ao,ak,aa, *]
    revert i
    simp[af,ah,ad,ae,aa, *,ai.get_put,N]
    intro i
    refine C7 (l:=b.used) ?_ ⟨a,d⟩ λi2 m2 O z2=>?_
    ·clear i;exact by simp(maxDischargeDepth:=12) [ai.get_put,aq,aj,Fr.nil,aw,af,ah,ad,ae,ao,ak,aa, *]
    revert i
    simp[af,ah,ad,ae,aa, *,ai.get_put,O]
    intro i
    clear P M N O
    refine i _ (.cL ⟨dep+1,43,H.gen (dep+1) 43,0⟩ 0 1 none) ?_ ?_ ?_ (.inr ⟨⟨dep+1,43,H.gen (dep+1) 43,0⟩,rfl,?_⟩) (λr Y=>by cases Y;rfl) ?_ λq cc S=>⟨?_,λn1 n2 U=>?_⟩
    ·clear i;exact by simp(maxDischargeDepth:=12) [ai.get_put,aq,aj,Fr.nil,aw,af,ah,ad,ae,ao,ak,aa, *]
    ·clear i;exact by simp(maxDischargeDepth:=12) [ai.get_put,aq,aj,Fr.nil,aw,af,ah,ad,ae,ao,ak,aa, *]
    ·clear i;exact by simp(maxDischargeDepth:=12) [ai.get_put,aq,aj,Fr.nil,aw,af,ah,ad,ae,ao,ak,aa, *]
    ·clear i;exact by simp(maxDischargeDepth:=12) [ai.get_put,aq,aj,Fr.nil,aw,af,ah,ad,ae,ao,ak,aa, *]
    ·clear i;exact by simp(maxDischargeDepth:=12) [ai.get_put,aq,aj,Fr.nil,aw,af,ah,ad,ae,ao,ak,aa, *]
    ·clear i
     have Q:(H.get q).isSome=true:=by rw[S];rfl
     simp[AV.at?,af hF Q]
    ·clear i
     have Q:(H.get q).isSome=true:=by rw[S];rfl
     simp[af hF Q,ai.get_put,n1,n2,U,λe=>n1 (q0 e),λe=>n2 (q0 e),λe=>U (q0 e),S]
   ·simp only[R,if_false]
    simp[af,ah,ad,ae,aa, *,jF,hx.r,W,h6,h7,P,M,yv.av,zw.av,mZ,re,jA,wT,R]
    intro i
    refine C8 (l:=b.ses) ?_ ⟨a,d,m⟩ λi1 m1 N z1=>?_
    ·clear i;exact by simp(maxDischargeDepth:=12) [ai.get_put,aq,aj,Fr.nil,aw,af,ah,ad,ae,ao,ak,aa, *]
    revert i
    simp[af,ah,ad,ae,aa, *,ai.get_put,N]
    intro i
    refine C7 (l:=b.used) ?_ ⟨a,d⟩ λi2 m2 O z2=>?_
    ·clear i;exact by simp(maxDischargeDepth:=12) [ai.get_put,aq,aj,Fr.nil,aw,af,ah,ad,ae,ao,ak,aa, *]
    revert i
    simp[af,ah,ad,ae,aa, *,ai.get_put,O]
    intro i
    clear P M N O
    refine i _ (.cL ⟨dep+1,43,H.gen (dep+1) 43,0⟩ 0 1 none) ?_ ?_ ?_ (.inr ⟨⟨dep+1,43,H.gen (dep+1) 43,0⟩,rfl,?_⟩) (λr Y=>by cases Y;rfl) ?_ λq cc S=>⟨?_,λn1 n2 U=>?_⟩
    ·clear i;exact by simp(maxDischargeDepth:=12) [ai.get_put,aq,aj,Fr.nil,aw,af,ah,ad,ae,ao,ak,aa, *]
    ·clear i;exact by simp(maxDischargeDepth:=12) [ai.get_put,aq,aj,Fr.nil,aw,af,ah,ad,ae,ao,ak,aa, *]
    ·clear i;exact by simp(maxDischargeDepth:=12) [ai.get_put,aq,aj,Fr.nil,aw,af,ah,ad,ae,ao,ak,aa, *]
    ·clear i;exact by simp(maxDischargeDepth:=12) [ai.get_put,aq,aj,Fr.nil,aw,af,ah,ad,ae,ao,ak,aa, *]
    ·clear i;exact by simp(maxDischargeDepth:=12) [ai.get_put,aq,aj,Fr.nil,aw,af,ah,ad,ae,ao,ak,aa, *]
    ·clear i
     have Q:(H.get q).isSome=true:=by rw[S];rfl
     simp[AV.at?,af hF Q]
    ·clear i
     have Q:(H.get q).isSome=true:=by rw[S];rfl
     simp[af hF Q,ai.get_put,n1,n2,U,λe=>n1 (q0 e),λe=>n2 (q0 e),λe=>U (q0 e),S]
  ·have f4:mY 17 112 nh true none (some ⟨17,eo,true,false⟩) (some [.agg [a8 F,a8 a,au d,a8 m,aI L,a8 I,au K,a8 G,aI J,aI j,a8 A,au E,a8 D,aI p,a8 n,au C,y]]):=by
    simp;omega
   have e43:=Z r rfl
   clear Z
   obtain⟨rd,rt,rg,rk⟩:=r
   simp only at e43
   subst e43
   have l8:(H.get ⟨rd,43,rg,rk⟩).isSome=true:=by rw[h8];rfl
   have nr1:(⟨rd,43,rg,rk⟩:Ref)≠rb:=λe=>s4 (by rw[e];rfl)
   have nr2:(⟨rd,43,rg,rk⟩:Ref)≠rs:=λe=>s5 (by rw[e];rfl)
   have nr3:(⟨rd,43,rg,rk⟩:Ref)≠ru:=λe=>s6 (by rw[e];rfl)
   have nr1':=nr1.symm
   have nr2':=nr2.symm
   have nr3':=nr3.symm
   clear s4 s5 s6
   by_cases R:F=1
   ·subst R
    simp[af,ah,ad,ae,aa, *,jF,hx.r,W,h6,h7,P,M,yv.av,zw.av,mZ,re,jA,wT]
    intro i
    refine C8 (l:=b.ses) ?_ ⟨a,d,m⟩ λi1 m1 N z1=>?_
    ·clear i;exact by simp(maxDischargeDepth:=12) [ai.get_put,aq,aj,Fr.nil,aw,af,ah,ad,ae,ao,ak,aa, *]
    revert i
    simp[af,ah,ad,ae,aa, *,ai.get_put,N]
    intro i
    refine C7 (l:=b.used) ?_ ⟨a,d⟩ λi2 m2 O z2=>?_
    ·clear i;exact by simp(maxDischargeDepth:=12) [ai.get_put,aq,aj,Fr.nil,aw,af,ah,ad,ae,ao,ak,aa, *]
    revert i
    simp[af,ah,ad,ae,aa, *,ai.get_put,O]
    intro i
    clear P M N O
    refine i _ (.cL ⟨rd,43,H.gen rd 43,0⟩ 0 (nh+1) none) ?_ ?_ ?_ (.inr ⟨⟨rd,43,H.gen rd 43,0⟩,by simp[X],?_⟩) (λr Y=>by cases Y;rfl) ?_ λq cc S=>⟨?_,λn1 n2 U n4=>?_⟩
    ·clear i;exact by simp(maxDischargeDepth:=12) [ai.get_put,aq,aj,Fr.nil,aw,af,ah,ad,ae,ao,ak,aa, *]
    ·clear i;exact by simp(maxDischargeDepth:=12) [ai.get_put,aq,aj,Fr.nil,aw,af,ah,ad,ae,ao,ak,aa, *]
    ·clear i;exact by simp(maxDischargeDepth:=12) [ai.get_put,aq,aj,Fr.nil,aw,af,ah,ad,ae,ao,ak,aa, *]
    ·clear i;exact by simp(maxDischargeDepth:=12) [ai.get_put,aq,aj,Fr.nil,aw,af,ah,ad,ae,ao,ak,aa, *]
    ·clear i;exact by simp(maxDischargeDepth:=12) [ai.get_put,aq,aj,Fr.nil,aw,af,ah,ad,ae,ao,ak,aa, *]
    ·clear i
     have Q:(H.get q).isSome=true:=by rw[S];rfl
     simp[AV.at?,af hF Q]
    ·clear i
     have Q:(H.get q).isSome=true:=by rw[S];rfl
     simp[af hF Q,ai.get_put,n1,n2,U,λe=>n1 (q0 e),λe=>n2 (q0 e),λe=>U (q0 e),S]
     all_goals (intro e;exact n4 (by first | exact e.symm | (rw[e];rfl)))
   ·simp only[R,if_false]
    simp[af,ah,ad,ae,aa, *,jF,hx.r,W,h6,h7,P,M,yv.av,zw.av,mZ,re,jA,wT,R]
    intro i
    refine C8 (l:=b.ses) ?_ ⟨a,d,m⟩ λi1 m1 N z1=>?_
    ·clear i;exact by simp(maxDischargeDepth:=12) [ai.get_put,aq,aj,Fr.nil,aw,af,ah,ad,ae,ao,ak,aa, *]
    revert i
    simp[af,ah,ad,ae,aa, *,ai.get_put,N]
    intro i
    refine C7 (l:=b.used) ?_ ⟨a,d⟩ λi2 m2 O z2=>?_
    ·clear i;exact by simp(maxDischargeDepth:=12) [ai.get_put,aq,aj,Fr.nil,aw,af,ah,ad,ae,ao,ak,aa, *]
    revert i
    simp[af,ah,ad,ae,aa, *,ai.get_put,O]
    intro i
    clear P M N O
    refine i _ (.cL ⟨rd,43,H.gen rd 43,0⟩ 0 (nh+1) none) ?_ ?_ ?_ (.inr ⟨⟨rd,43,H.gen rd 43,0⟩,by simp[X],?_⟩) (λr Y=>by cases Y;rfl) ?_ λq cc S=>⟨?_,λn1 n2 U n4=>?_⟩
    ·clear i;exact by simp(maxDischargeDepth:=12) [ai.get_put,aq,aj,Fr.nil,aw,af,ah,ad,ae,ao,ak,aa, *]
    ·clear i;exact by simp(maxDischargeDepth:=12) [ai.get_put,aq,aj,Fr.nil,aw,af,ah,ad,ae,ao,ak,aa, *]
    ·clear i;exact by simp(maxDischargeDepth:=12) [ai.get_put,aq,aj,Fr.nil,aw,af,ah,ad,ae,ao,ak,aa, *]
    ·clear i;exact by simp(maxDischargeDepth:=12) [ai.get_put,aq,aj,Fr.nil,aw,af,ah,ad,ae,ao,ak,aa, *]
    ·clear i;exact by simp(maxDischargeDepth:=12) [ai.get_put,aq,aj,Fr.nil,aw,af,ah,ad,ae,ao,ak,aa, *]
    ·clear i
     have Q:(H.get q).isSome=true:=by rw[S];rfl
     simp[AV.at?,af hF Q]
    ·clear i
     have Q:(H.get q).isSome=true:=by rw[S];rfl
     simp[af hF Q,ai.get_put,n1,n2,U,λe=>n1 (q0 e),λe=>n2 (q0 e),λe=>U (q0 e),S]
     all_goals (intro e;exact n4 (by first | exact e.symm | (rw[e];rfl)))
 obtain⟨z,H',W,rfl,xh',h2,h3⟩:=lB (f:=150) (by kernel_rfl) (by kernel_rfl) (by kernel_rfl) (by kernel_rfl) (by kernel_rfl) hgo
 exact⟨H',xh',W,h2,h3⟩
end
end Go.Proofs.YtmkmimgokagimaaGreat
namespace Go.Proofs.YtmkmimgokagimaaGreat
open Go.Ab
attribute [local simp] aW aJ aH aV aU cr ld bf aQ aT cz cw bI bg aC bH gh
def Sn(f g:FuncId):AV := .agg [.fn (.func f) [] [],.fn (.func g) [] []]
def sV:List AV:=[.tup [a8 1,Sn 145 148],.tup [a8 2,Sn 149 150],.tup [a8 3,Sn 151 153]]
theorem Wn:aF env 84 []=some (.fsl 0 (.v (.bool true) :: sV) none):=ED (n:=400) (by kernel_rfl)
theorem P4(a:Bool)(dep:Nat)(H:ai)(d t g:Nat):bJ env a (aF env) (cg env dep) H ⟨d,t,g,0⟩ (some (.fn (.func 84) [] [])) []=some (.mp ⟨d,t,g,0⟩,(⟨d,t,g,0⟩,some (bj sV)) :: H):=by
 have c:env.mode 84=1:=by kernel_rfl
 have e:([]++[]++[]:List AV)=[]:=rfl
 have b:(pure []:Option (List AV))=some []:=rfl
 simp only[bJ,ku,c,e,FE,b,Wn]
 cases a<;>rfl
theorem Gk:HO env.P 151=some (5,150):=by kernel_rfl
theorem UK{g:da}{r:Ref}(h:g r=some (bj sV)):eU env.P g 151 (some (.mp r)) (some (a8 1)) false=some (Sn 145 148,[]):=by
 have b:jU g r=some sV:=by unfold jU;rw[h];rfl
 have a:gJ (a8 1)=some (.int .u8 1):=by kernel_rfl
 simp only[eU,Gk,fH,a,b]
 show _=_
 kernel_rfl
theorem UJ{g:da}{r:Ref}(h:g r=some (bj sV)):eU env.P g 151 (some (.mp r)) (some (a8 2)) false=some (Sn 149 150,[]):=by
 have b:jU g r=some sV:=by unfold jU;rw[h];rfl
 have a:gJ (a8 2)=some (.int .u8 2):=by kernel_rfl
 simp only[eU,Gk,fH,a,b]
 show _=_
 kernel_rfl
theorem UI{g:da}{r:Ref}(h:g r=some (bj sV)):eU env.P g 151 (some (.mp r)) (some (a8 3)) false=some (Sn 151 153,[]):=by
 have b:jU g r=some sV:=by unfold jU;rw[h];rfl
 have a:gJ (a8 3)=some (.int .u8 3):=by kernel_rfl
 simp only[eU,Gk,fH,a,b]
 show _=_
 kernel_rfl
end Go.Proofs.YtmkmimgokagimaaGreat
namespace Go.Proofs.YtmkmimgokagimaaGreat
open Go.Ab
attribute [local simp] aW aJ aH aV aU cr ld bf aQ aT cz cw bI bg aC bH gh
theorem Own.grow{z:Nat}{es:List AV}{H H':ai}{x:AV}(h:Own z es H x)(g:bF H H'):Own z es H' x:=by
 rcases h with h | ⟨r,rfl,a⟩
 ·exact .inl h
 ·exact .inr ⟨r,rfl,g.old _ _ a⟩
theorem iM.grow{H H':ai}{rb rs ru:Ref}{xh xr:AV}{us0:List Clear}{qs:List ax}{gr0:Int}{b:fZ}(h:iM H rb rs ru xh xr us0 qs gr0 b)(g:bF H H'):iM H' rb rs ru xh xr us0 qs gr0 b:=by
 obtain⟨e,c,i,j,m,d,a,f,k,o,n⟩:=h.box
 exact⟨⟨e,c,i,j,m,d,g.old _ _ a,f,k,o.grow g,n.grow g⟩,g.old _ _ h.ses,g.old _ _ h.use,Own.grow h.eO g,h.one,h.sep,h.t43⟩
structure Qv (H0 H:ai) (rb rs ru rk:Ref) (xh xr:AV) (us0:List Clear) (qs:List ax) (gr0:Int) (b:fZ) (recs:List (cH × AV)):Prop where
 g:bF H0 H
 bk:iM H rb rs ru xh xr us0 qs gr0 b
 row:Own 24 (bY recs) H xr
 t62 : ∀r,xr.at?=some r->r.t=62/\H0.get r=none
 new : ∀r,xh.at?=some r->H0.get r=none
 kd:H.get rk=some (bj sV)
 tt:rb.t=24/\rs.t=21/\ru.t=22/\rk.t=25
 nn:H0.get rb=none/\H0.get rs=none/\H0.get ru=none
section
variable{H0 H H':ai}{rb rs ru rk:Ref}{xh xr:AV}{us0:List Clear}{qs:List ax}{gr0:Int}{b:fZ}{recs:List (cH × AV)}(h:Qv H0 H rb rs ru rk xh xr us0 qs gr0 b recs)
include h
theorem Qv.grow(g:bF H H'):Qv H0 H' rb rs ru rk xh xr us0 qs gr0 b recs:=
 ⟨h.g.trans g,h.bk.grow g,Own.grow h.row g,h.t62,h.new,g.old _ _ h.kd,h.tt,h.nn⟩
theorem Qv.ne{q:Ref}{c:bz}(a:H0.get q=some c):q≠rb/\q≠rs/\q≠ru/\xh.at?≠some q/\xr.at?≠some q:=by
 obtain⟨n1,n2,n3⟩:=h.nn
 refine⟨?_,?_,?_,?_,?_⟩
 ·rintro rfl;rw[n1]at a;cases a
 ·rintro rfl;rw[n2]at a;cases a
 ·rintro rfl;rw[n3]at a;cases a
 ·intro e;have:=h.new q e;rw[a]at this;cases this
 ·intro e;have:=(h.t62 q e).2;rw[a]at this;cases this
theorem Qv.did{xh':AV}{b':fZ}(n:iM H' rb rs ru xh' xr us0 qs gr0 b')(i:Qw H H' rb rs ru xh xh'):Qv H0 H' rb rs ru rk xh' xr us0 qs gr0 b' recs:=by
 obtain⟨t1,t2,t3,t4⟩:=h.tt
 have f : ∀q c,H0.get q=some c->H'.get q=some c/\xh'.at?≠some q:=by
  intro q c a
  obtain⟨k,o,p,u,_⟩:=h.ne a
  exact i.old q c (h.g.old q c a) k o p u
 have d : ∀(q:Ref),q.t≠43->xh.at?≠some q:=λq a e=>a (h.bk.t43 q e)
 refine⟨⟨i.fr,λq c a=>(f q c a).1⟩,n,?_,h.t62,?_,?_,h.tt,h.nn⟩
 ·rcases h.row with m | ⟨r,rfl,j⟩
  ·exact .inl m
  ·have v:=(h.t62 r rfl).1
   exact .inr ⟨r,rfl,(i.old r _ j (by rintro rfl;omega) (by rintro rfl;omega) (by rintro rfl;omega) (d r (by omega))).1⟩
 ·intro r e
  cases j:H0.get r with
  | none=>rfl
  | some c=>exact absurd e (f r c j).2
 ·exact(i.old rk _ h.kd (by rintro rfl;omega) (by rintro rfl;omega) (by rintro rfl;omega) (d rk (by omega))).1
theorem Qv.put{d:AV}{a:List (cH × AV)}(z:Fr H')(n:Own 24 (bY a) H' d)(K : ∀r,d.at?=some r->r.t=62)
 (v : ∀o m p u,H.get rb=some ⟨10,[.agg [o,m,aI gr0,p,u,aI b.gr,xr,.mp rs,.mp ru,xh]],false,false⟩->H'.get rb=some ⟨10,[.agg [o,m,aI gr0,p,u,aI b.gr,d,.mp rs,.mp ru,xh]],false,false⟩)
 (j : ∀q c,H.get q=some c->d.at?≠some q/\(q≠rb->xr.at?≠some q->H'.get q=some c)):Qv H0 H' rb rs ru rk xh d us0 qs gr0 b a:=by
 obtain⟨t1,t2,t3,t4⟩:=h.tt
 have i : ∀(q:Ref),q.t≠62->xr.at?≠some q:=λq f e=>f (h.t62 q e).1
 obtain⟨o,m,p,u,G,C,w,D,E,J,I⟩:=h.bk.box
 have y : ∀q c,H.get q=some c->c.kH=true->H'.get q=some c:=by
  intro q c f x
  refine(j q c f).2 ?_ ?_
  ·rintro rfl;rw[w]at f;cases f;exact absurd x (by simp)
  ·intro e
   rcases h.row with ⟨rfl,_⟩ | ⟨r,rfl,k⟩
   ·cases e
   ·simp only[AV.at?,dW]at e;subst e;rw[k]at f;cases f;exact absurd x (by simp)
 refine⟨⟨z,λq c f=>?_⟩,⟨⟨o,m,p,u,G,C,v _ _ _ _ w,D,E,J.cr y,I.cr y⟩,?_,?_,?_,?_,h.bk.sep,h.bk.t43⟩,n,λr e=>⟨K r e,?_⟩,h.new,?_,h.tt,h.nn⟩
 ·obtain⟨n1,n2,n3,L,F⟩:=h.ne f
  exact(j q c (h.g.old q c f)).2 n1 F
 ·exact(j _ _ h.bk.ses).2 (by rintro rfl;omega) (i _ (by omega))
 ·exact(j _ _ h.bk.use).2 (by rintro rfl;omega) (i _ (by omega))
 ·rcases h.bk.eO with n | ⟨r,rfl,k⟩
  ·exact .inl n
  ·have:=h.bk.t43 r rfl
   exact .inr ⟨r,rfl,(j _ _ k).2 (by rintro rfl;omega) (i _ (by omega))⟩
 ·obtain⟨_,A⟩:=nm n;exact A.cells
 ·cases k:H0.get r with
  | none=>rfl
  | some c=>exact absurd e (j r c (h.g.old r c k)).1
 ·exact(j _ _ h.kd).2 (by rintro rfl;omega) (i _ (by omega))
end
theorem tB{f:FuncId}(a:(env.mode f == 2)=true){dep:Nat}{H H':ai}{r:Ref}{first args captured:List AV}{y:AV}{K:AV->ai->Prop}{m:Mk K}
 (h:cg env dep (.fn f) (first++args++captured) H=some (y,H')) (c:K y H') :
 m4 (bJ env true (aF env) (cg env dep) H r (some (.fn (.func f) first captured)) args) K m:=by
 refine D9 (v:=y) (H:=H') ?_ c
 rw[Eb a]
 exact h
theorem Ti(k:UInt8)(u:Int)(m:UInt8)(D:UInt8)(n:UInt32)(C:UInt8)(A:Int)(z:UInt8)(q:UInt32)(E:UInt8)(t:Int)(j:Int)(i:UInt8)(d:UInt32)(a:UInt8)(f:Int)(e:UInt8)(g:UInt32)(c I:Int)(v:UInt8)(w:UInt32)(o:Bool){x:AV}{F:List Int}(hx:Sl 1 (rows F) x)(G:F.length<1000000) :
 ∃y,y=u4 x/\Sl 1 (rows F) y/\aF env 161 [.agg [a8 k,aI u,a8 m,a8 D,au n,a8 C,aI A,a8 z,au q,a8 E,aI t,aI j,a8 i,au d,a8 a,aI f,a8 e,au g,x,aI c,aI I,a8 v,au w,aB o]]=some (.agg [a8 k,aI u,a8 m,a8 D,au n,a8 C,aI A,a8 z,au q,a8 E,aI t,aI j,a8 i,au d,a8 a,aI f,a8 e,au g,y,aI c,aI I,a8 v,au w,aB o]):=Wr (p:=(⟨k,u,(⟨m,⟨D,n,C⟩,A,⟨⟨⟨z,q,E⟩,t⟩,j⟩,⟨⟨i,d,a⟩,f⟩,⟨e,g⟩,F⟩:aK),c,I,v,w,o⟩,x)) ⟨hx,G⟩
theorem An(k:UInt8)(u:Int)(m:UInt8)(C:UInt8)(n:UInt32)(A:UInt8)(z:Int)(y:UInt8)(q:UInt32)(D:UInt8)(t:Int)(j:Int)(i:UInt8)(d:UInt32)(a:UInt8)(f:Int)(e:UInt8)(g:UInt32)(c G:Int)(v:UInt8)(w:UInt32)(o:Bool){x:AV}{E:List Int}(hx:Sl 1 (rows E) x)(F:E.length<1000000) :
 aF env 82 [.agg [a8 k,aI u,a8 m,a8 C,au n,a8 A,aI z,a8 y,au q,a8 D,aI t,aI j,a8 i,au d,a8 a,aI f,a8 e,au g,x,aI c,aI G,a8 v,au w,aB o]]=some (aI (if cT ⟨k,u,(⟨m,⟨C,n,A⟩,z,⟨⟨⟨y,q,D⟩,t⟩,j⟩,⟨⟨i,d,a⟩,f⟩,⟨e,g⟩,E⟩:aK),c,G,v,w,o⟩ then 0 else 8)):=Oc (p:=(⟨k,u,(⟨m,⟨C,n,A⟩,z,⟨⟨⟨y,q,D⟩,t⟩,j⟩,⟨⟨i,d,a⟩,f⟩,⟨e,g⟩,E⟩:aK),c,G,v,w,o⟩,x)) ⟨hx,F⟩
section
variable{l:List (cH × AV)}{x26:AV}(hx:Sl 24 (bY l) x26)(hl:l.length<10000){H0:ai}{Q:AV->ai->Prop}{dep:Nat}{rb rs ru rk:Ref}{us0:List Clear}{qs:List ax}{gr0:Int}
include hx hl
theorem J7{i:Nat}(hi:i<l.length){H:ai}{xh xr:AV}{b b':fZ}{recs:List (cH × AV)}(Y:Qv H0 H rb rs ru rk xh xr us0 qs gr0 b recs)(hrl:recs.length<=10000){fi fd:FuncId}(hm1:(env.mode fi == 2)=true)(hm2:(env.mode fd == 2)=true)
 (k:UInt8) (u:Int) (E:UInt8) (D:UInt8) (G:UInt32) (K:UInt8) (J:Int) (C:UInt8) (I:UInt32) (A:UInt8) (F:Int) (m:Int) (f:UInt8) (p:UInt32) (n:UInt8) (d:Int) (a:UInt8) (j:UInt32) (c W:Int) (v:UInt8) (w:UInt32) (o:Bool) {x:AV} {al:List Int} (O:Sl 1 (rows al) x) (hal:al.length<1000000) (hrd:bX (bY l) i 0 24 true=some (.agg [a8 k,aI u,a8 E,a8 D,au G,a8 K,aI J,a8 C,au I,a8 A,aI F,aI m,a8 f,au p,a8 n,aI d,a8 a,au j,x,aI c,aI W,a8 v,au w,aB o]))
 (R : ∀g:da,g rk=some (bj sV)->eU env.P g 151 (some (.mp rk)) (some (a8 k)) false=some (Sn fi fd,[])) (his:cT ⟨k,u,(⟨E,⟨D,G,K⟩,J,⟨⟨⟨C,I,A⟩,F⟩,m⟩,⟨⟨f,p,n⟩,d⟩,⟨a,j⟩,al⟩:aK),c,W,v,w,o⟩=true) {ft:Bool}
 (Z : ∀H',Qv H0 H' rb rs ru rk xh xr us0 qs gr0 b recs ->∃N,cg env (dep+1) (.fn fi) [.ptr rb 0 0,.agg [a8 k,aI u,a8 E,a8 D,au G,a8 K,aI J,a8 C,au I,a8 A,aI F,aI m,a8 f,au p,a8 n,aI d,a8 a,au j,x,aI c,aI W,a8 v,au w,aB o]] H'=some (aB ft,N)/\bF H' N)
 (hdo:ft=true ->∀H',Qv H0 H' rb rs ru rk xh xr us0 qs gr0 b recs ->∃N xh',cg env (dep+1) (.fn fd) [.ptr rb 0 0,.agg [a8 k,aI u,a8 E,a8 D,au G,a8 K,aI J,a8 C,au I,a8 A,aI F,aI m,a8 f,au p,a8 n,aI d,a8 a,au j,x,aI c,aI W,a8 v,au w,aB o]] H'=some (.v (.tuple #[]),N)/\iM N rb rs ru xh' xr us0 qs gr0 b'/\Qw H' N rb rs ru xh xh')
 (hno:ft=false ->∀H',bF H0 H'->Q (.tup [.v (.pointer none),.v (.bool false)]) H')
 (S:ft=true ->∀H' xh' z,Qv H0 H' rb rs ru rk xh' z us0 qs gr0 b' (recs++[(⟨k,u,(⟨E,⟨D,G,K⟩,J,⟨⟨⟨C,I,A⟩,F⟩,m⟩,⟨⟨f,p,n⟩,d⟩,⟨a,j⟩,al⟩:aK),c,W,v,w,o⟩,u4 x)])->bN env Tryz.f100 (dep+1) kG [(28,aI ((i:Int)+1)),(6,.ptr rb 0 0),(7,.mp rk),(26,x26),(27,aI l.length)] H' Q) :
 bN env Tryz.f100 (dep+1) kG [(28,aI i),(6,.ptr rb 0 0),(7,.mp rk),(26,x26),(27,aI l.length)] H Q:=by
 have hF:=Y.g.fr
 have e3:=IntWalk.i64_in ((i:Int)+1) (by omega)
 have hlt':(i:Int)<l.length:=by omega
 have hC:=An k u E D G K J C I A F m f p n d a j c W v w o O hal
 rw[his]at hC
 have hg1 : ∀b1:bz,bF H ((⟨dep+1,9,H.gen (dep+1) 9,0⟩,some b1) :: H):=λb1=>bF.cons hF _ _ _
 have hI1:=λb1=>Y.grow (hg1 b1)
 have hkd:=Y.kd
 have lk:(H.get rk).isSome=true:=by rw[hkd];rfl
 refine uU _ _ _ _ _ _ _ _ λg=>?_
 simp[af,ah,ad,ae,aa, *,rS,hx.r,hx.idx,O.r,Sn]
 refine lO hm1 (Z _ (hI1 _)) λH4 hG=>?_
 have T:=(hI1 _).grow hG
 have hb9:=hG.old ⟨dep+1,9,H.gen (dep+1) 9,0⟩ _ (by simp;rfl)
 have X:=T.kd
 cases ft with
 | false=>
  have hfin:=hno rfl _ T.g
  simp
  exact hfin
 | true=>
  have hl4:=R _ X
  obtain⟨M,xh',e1,e2,e4⟩:=hdo rfl H4 T
  have U:=T.did e2 e4
  have b9:=(e4.old _ _ hb9 (λe=>absurd (congrArg Ref.t e) (by rw[Y.tt.1];simp)) (λe=>absurd (congrArg Ref.t e) (by rw[Y.tt.2.1];simp)) (λe=>absurd (congrArg Ref.t e) (by rw[Y.tt.2.2.1];simp)) (λe=>absurd (Y.bk.t43 _ e) (by simp))).1
  obtain⟨xu,xq,yu,yq,wu,wq,f1,f2,f3,f4,f5⟩:=e2.box
  have c4:=f4.s.cells
  have c5:=f5.s.cells
  have c8:xh'.cells=[xh']/\xh'.one=true:=by obtain⟨_,hs⟩:=nm e2.eO;exact hs.cells
  have V:=e4.fr
  have l5:(M.get rb).isSome=true:=by rw[f1];rfl
  have l9:(M.get ⟨dep+1,9,H.gen (dep+1) 9,0⟩).isSome=true:=by rw[b9];rfl
  obtain⟨y,hty,hy,hT⟩:=Ti k u E D G K J C I A F m f p n d a j c W v w o O hal
  rw[<-hty]at S
  have hbx : ∀(z:AV)(H':ai),H'.get rb=some ⟨10,[.agg [xu,xq,aI gr0,yu,yq,aI b'.gr,z,.mp rs,.mp ru,xh']],false,false⟩ ->∀xu xq yu yq,M.get rb=some ⟨10,[.agg [xu,xq,aI gr0,yu,yq,aI b'.gr,xr,.mp rs,.mp ru,xh']],false,false⟩->H'.get rb=some ⟨10,[.agg [xu,xq,aI gr0,yu,yq,aI b'.gr,z,.mp rs,.mp ru,xh']],false,false⟩:=by
   intro z H' h xu' xq' yu' yq' h'
   rw[f1]at h'
   simp only[dW,bz.mk.injEq,zF,AV.agg.injEq,and_true,true_and]at h'
   obtain⟨rfl,rfl,rfl,rfl⟩:=h'
   exact h
  have hro:=U.row
  have h62:=λr e=>(U.t62 r e).1
  have c9:=e2.one
  have hel:(bY recs).length=recs.length:=ew recs
  have L : ∀(H':ai)(z:AV),Fr H'->Own 24 (bY recs++[.agg [a8 k,aI u,a8 E,a8 D,au G,a8 K,aI J,a8 C,au I,a8 A,aI F,aI m,a8 f,au p,a8 n,aI d,a8 a,au j,y,aI c,aI W,a8 v,au w,aB o]]) H' z->(∀r,z.at?=some r->r.t=62) ->
   H'.get rb=some ⟨10,[.agg [xu,xq,aI gr0,yu,yq,aI b'.gr,z,.mp rs,.mp ru,xh']],false,false⟩->(∀q c,M.get q=some c->z.at?≠some q/\(q≠rb->xr.at?≠some q->H'.get q=some c)) ->
   bN env Tryz.f100 (dep+1) kG [(28,aI ((i:Int)+1)),(6,.ptr rb 0 0),(7,.mp rk),(26,x26),(27,aI l.length)] H' Q:=
   λH' z a1 a2 a3 a5 a6=>S rfl _ _ _ (U.put a1 (by rw[bY,Fp];exact a2) a3 (hbx _ _ a5) a6)
  clear S hbx hno Z hdo R Y hI1 T U e2 e4 f4 f5 hC his hg1 hkd X hrd hty
  generalize bY recs=eo at *
  generalize recs.length=nh at *
  simp[hb9,hl4,Sn]
  refine tB hm2 e1 ?_
  clear e1 hl4 hb9 hG
  revert L
  rcases hro with ⟨rfl,rfl⟩ | ⟨r,rfl,h8⟩
  ·clear hel hrl nh h62
   simp[af,ah,ad,ae,aa, *,b9,f1,hT,O.r,hy.r]
   intro L
   refine L _ (.cL ⟨dep+1,62,M.gen (dep+1) 62,0⟩ 0 1 none) ?_ (.inr ⟨⟨dep+1,62,M.gen (dep+1) 62,0⟩,rfl,?_⟩) (λr hr=>by cases hr;rfl) ?_ λq cc hq=>⟨?_,λn1=>?_⟩
   ·clear L;exact by simp(maxDischargeDepth:=12) [ai.get_put,aq,aj,Fr.nil,aw,af,ah,ad,ae,ao,ak,aa, *]
   ·clear L;exact by simp(maxDischargeDepth:=12) [ai.get_put,aq,aj,Fr.nil,aw,af,ah,ad,ae,ao,ak,aa, *]
   ·clear L;exact by simp(maxDischargeDepth:=12) [ai.get_put,aq,aj,Fr.nil,aw,af,ah,ad,ae,ao,ak,aa, *]
   ·clear L
    have lq:(M.get q).isSome=true:=by rw[hq];rfl
    simp[AV.at?,af V lq]
   ·clear L
    have lq:(M.get q).isSome=true:=by rw[hq];rfl
    simp[af V lq,ai.get_put,n1,λe=>n1 (q0 e),hq]
  ·have e62:=h62 r rfl
   clear h62
   obtain⟨rd,rt,rg,rk'⟩:=r
   simp only at e62
   subst e62
   have f6:mY 24 160 nh true none (some ⟨24,eo,true,false⟩) (some [.agg [a8 k,aI u,a8 E,a8 D,au G,a8 K,aI J,a8 C,au I,a8 A,aI F,aI m,a8 f,au p,a8 n,aI d,a8 a,au j,y,aI c,aI W,a8 v,au w,aB o]]):=by
    simp;omega
   have l8:(M.get ⟨rd,62,rg,rk'⟩).isSome=true:=by rw[h8];rfl
   have nr1:(⟨rd,62,rg,rk'⟩:Ref)≠rb:=by
    intro e;rw[e,f1]at h8;simp at h8
   have nr1':=nr1.symm
   simp[af,ah,ad,ae,aa, *,b9,f1,hT,O.r,hy.r]
   intro L
   refine L _ (.cL ⟨rd,62,M.gen rd 62,0⟩ 0 (nh+1) none) ?_ (.inr ⟨⟨rd,62,M.gen rd 62,0⟩,by simp[hel],?_⟩) (λr hr=>by cases hr;rfl) ?_ λq cc hq=>⟨?_,λn1 n4=>?_⟩
   ·clear L;exact by simp(maxDischargeDepth:=12) [ai.get_put,aq,aj,Fr.nil,aw,af,ah,ad,ae,ao,ak,aa, *]
   ·clear L;exact by simp(maxDischargeDepth:=12) [ai.get_put,aq,aj,Fr.nil,aw,af,ah,ad,ae,ao,ak,aa, *]
   ·clear L;exact by simp(maxDischargeDepth:=12) [ai.get_put,aq,aj,Fr.nil,aw,af,ah,ad,ae,ao,ak,aa, *]
   ·clear L
    have lq:(M.get q).isSome=true:=by rw[hq];rfl
    simp[AV.at?,af V lq]
   ·clear L
    have lq:(M.get q).isSome=true:=by rw[hq];rfl
    simp[af V lq,ai.get_put,n1,λe=>n1 (q0 e),hq]
    all_goals (intro e;exact n4 (by first | exact e.symm | (rw[e];rfl)))
end
end Go.Proofs.YtmkmimgokagimaaGreat
namespace Go.Proofs.YtmkmimgokagimaaGreat
open Go.Ab
attribute [local simp] aW aJ aH aV aU cr ld bf aQ aT cz cw bI bg aC bH gh
def tL(us0:List Clear)(qs:List ax)(gr0:Int)(b:fZ)(r:cH):Bool:=if r.kind=1 then EI us0 qs gr0 b r else if r.kind=2 then C3 us0 qs gr0 b r else EH qs b r
def Pd(b:fZ)(p:cH × AV):fZ:=if p.1.kind=1 then B0 b p.1.op p.1.user else if p.1.kind=2 then vL b p.1.op p.1.code (u4 p.2) else C9 b p.1.gu p.1.gv p.1.gc p.1.gok
def Un(us0:List Clear)(qs:List ax)(gr0:Int):fZ->List (cH × AV)->Option fZ
 | b,[]=>some b
 | b,p :: l=>if cT p.1=true/\tL us0 qs gr0 b p.1=true then Un us0 qs gr0 (Pd b p) l else none
theorem PE{l:List Int}{x:AV}(hx:Sl 1 (rows l) x):Sl 1 (rows l) (u4 x):=by
 rcases hx with ⟨rfl,h⟩ | ⟨c,rfl,h⟩
 ·exact .inl ⟨rfl,h⟩
 ·by_cases a:rows l=[]
  ·rw[a];exact .inr ⟨some 0,rfl,by simp⟩
  ·rw[K8 1 c a];exact Sl.mk _ _
def Ix(p:cH × AV):cH × AV:=(p.1,u4 p.2)
theorem MT(b:fZ)(p:cH × AV):(Pd b p).eO.length<=b.eO.length+1:=by
 unfold Pd B0 vL C9
 repeat' split
 all_goals simp
theorem aaB{b:fZ}(h:pd b){p:cH × AV}(hp:z6 p)(d:b.eO.length+1<10000):pd (Pd b p):=by
 have c:=MT b p
 unfold Pd at c ⊢
 split at c
 ·rename_i k1
  rw[if_pos k1]
  refine⟨Cy (P:=λx =>∃s:yv,x=s.av) ⟨_,rfl⟩ h.ses,Cy (P:=λx =>∃s:zw,x=s.av) ⟨_,rfl⟩ h.used,h.eO,by omega,h.few⟩
 ·rename_i k1
  rw[if_neg k1]
  split at c
  ·rename_i k2
   rw[if_pos k2]
   refine⟨Cy (P:=λx =>∃s:yv,x=s.av) ⟨_,rfl⟩ h.ses,Cy (P:=λx =>∃s:zw,x=s.av) ⟨_,rfl⟩ h.used,?_,by omega,h.few⟩
   intro q a
   unfold vL at a
   simp only at a
   split at a
   ·rcases nR.1 a with a | a
    ·exact h.eO q a
    ·rw[uP]at a
     subst a
     exact⟨⟨PE hp.1,by have:=hp.2;simp only;omega⟩,hp.2⟩
   ·exact h.eO q a
  ·rename_i k2
   rw[if_neg k2]
   exact⟨h.ses,h.used,h.eO,by omega,by show(b.us.set _ _).length<_;rw[Jr];exact h.few⟩
def Hu(H0:ai)(us0:List Clear)(qs:List ax)(gr0:Int)(recs:List (cH × AV))(o:Option fZ)(y:AV)(H:ai):Prop:=match o with
 | none=>y = .tup [.v (.pointer none),aB false]/\bF H0 H
 | some b =>∃rb rs ru rk a c,y = .tup [.ptr rb 0 0,aB true]/\Qv H0 H rb rs ru rk a c us0 qs gr0 b recs/\pd b
section
variable{l:List (cH × AV)}{x26:AV}(hx:Sl 24 (bY l) x26)(hl:l.length<=2048)(hall : ∀p∈l,z6 p){H0:ai}{Q:AV->ai->Prop}{dep:Nat}{rb rs ru rk:Ref}{us0:List Clear}{qs:List ax}{gr0:Int}(hul:us0.length<1000000)(hql:qs.length<1000000)
include hx hl hall hul hql
theorem W1 : ∀(s:List (cH × AV)) (k:Nat) (b:fZ) (recs:List (cH × AV)) (H:ai) (xh xr:AV),l.drop k=s->k<=l.length->recs=(l.take k).map Ix->pd b->b.eO.length<=k->Qv H0 H rb rs ru rk xh xr us0 qs gr0 b recs ->
 (∀y H',Hu H0 us0 qs gr0 (l.map Ix) (Un us0 qs gr0 b s) y H'->Q y H') ->
 bN env Tryz.f100 (dep+1) kG [(28,aI k),(6,.ptr rb 0 0),(7,.mp rk),(26,x26),(27,aI l.length)] H Q:=by
 intro s
 induction s with
 | nil=>
  rintro k b recs H xh xr hs hk hr hok hm hI hQ
  obtain rfl:=drop_nil hs hk
  rw[FL]at hr
  subst hr
  have P:=hQ _ H ⟨rb,rs,ru,rk,xh,xr,rfl,hI,hok⟩
  refine uU _ _ _ _ _ _ _ _ λg=>?_
  clear hQ hI hall
  simp[af,ah,ad,ae,aa, *,rS]
  all_goals exact P
 | cons p s ih=>
  rintro k b recs H xh xr hs hk hr hok hm hI hQ
  obtain⟨U,hg,hs',hg'⟩:=drop_cons hs
  have hp:=hall p (hg ▸ lY U)
  have hok':=aaB hok hp (by omega)
  have hm':=MT b p
  have Y:recs.length<=10000:=by rw[hr];simp;omega
  have hr':recs++[Ix p]=(l.take (k+1)).map Ix:=by
   rw[hr,Jt,hg']
   simp
  have S:=λ(hd:cT p.1=true/\tL us0 qs gr0 b p.1=true) H' xh' M h=>ih (k+1) (Pd b p) _ H' xh' M hs' (by omega) hr' hok' (by omega) h (λy H1 hA=>hQ y H1 (by show Hu _ _ _ _ _ (if _ then _ else _) _ _;rw[if_pos hd];exact hA))
  have O : ¬(cT p.1=true/\tL us0 qs gr0 b p.1=true) ->∀H',bF H0 H'->Q (.tup [.v (.pointer none),aB false]) H':=λhd H' Z=>hQ _ H' (by show Hu _ _ _ _ _ (if _ then _ else _) _ _;rw[if_neg hd];exact⟨rfl,Z⟩)
  obtain⟨⟨k1,u,⟨n,⟨F,z,E⟩,D,⟨⟨⟨C,A,t⟩,q⟩,m⟩,⟨⟨i,d,a⟩,f⟩,⟨e,j⟩,N⟩,c,J,v,w,o⟩,x⟩:=p
  obtain⟨I,L⟩:=hp
  simp only at I L
  have X:bX (bY l) k 0 24 true=some (.agg [a8 k1,aI u,a8 n,a8 F,au z,a8 E,aI D,a8 C,au A,a8 t,aI q,aI m,a8 i,au d,a8 a,aI f,a8 e,au j,x,aI c,aI J,a8 v,au w,aB o]):=by simp[bY,hg',cH.val]
  have hlt':(k:Int)<l.length:=by omega
  cases K:cT ⟨k1,u,(⟨n,⟨F,z,E⟩,D,⟨⟨⟨C,A,t⟩,q⟩,m⟩,⟨⟨i,d,a⟩,f⟩,⟨e,j⟩,N⟩:aK),c,J,v,w,o⟩ with
  | false=>
   have hF:=hI.g.fr
   have hC:=An k1 u n F z E D C A t q m i d a f e j c J v w o I L
   rw[K]at hC
   have P:=λb1=>O (by rw[K];simp) _ ((hI.grow (bF.cons hF (dep+1) 9 b1)).g)
   refine uU _ _ _ _ _ _ _ _ λg=>?_
   clear O S ih hQ hI hall K
   simp[af,ah,ad,ae,aa, *,rS,hx.r,hx.idx,I.r]
   all_goals exact P _
  | true=>
   by_cases V:k1=1
   ·subst V
    have W:tL us0 qs gr0 b ⟨1,u,(⟨n,⟨F,z,E⟩,D,⟨⟨⟨C,A,t⟩,q⟩,m⟩,⟨⟨i,d,a⟩,f⟩,⟨e,j⟩,N⟩:aK),c,J,v,w,o⟩=EI us0 qs gr0 b ⟨1,u,(⟨n,⟨F,z,E⟩,D,⟨⟨⟨C,A,t⟩,q⟩,m⟩,⟨⟨i,d,a⟩,f⟩,⟨e,j⟩,N⟩:aK),c,J,v,w,o⟩:=rfl
    refine J7 hx (by omega) U hI Y (fi:=145) (fd:=148) (b':=Pd b (⟨1,u,(⟨n,⟨F,z,E⟩,D,⟨⟨⟨C,A,t⟩,q⟩,m⟩,⟨⟨i,d,a⟩,f⟩,⟨e,j⟩,N⟩:aK),c,J,v,w,o⟩,x)) (by kernel_rfl) (by kernel_rfl) 1 u n F z E D C A t q m i d a f e j c J v w o I L X (λg=>UK) K (ft:=EI us0 qs gr0 b ⟨1,u,(⟨n,⟨F,z,E⟩,D,⟨⟨⟨C,A,t⟩,q⟩,m⟩,⟨⟨i,d,a⟩,f⟩,⟨e,j⟩,N⟩:aK),c,J,v,w,o⟩)
     (λH' G=>UR (dep+1) G.g.fr G.bk.at hok hul hql 1 u n F z E D C A t q m i d a f e j c J v w o I) ?_ ?_ ?_
    ·intro _ H' G
     obtain⟨H2,V,T,R⟩:=Z4 (dep+1) G.g.fr G.bk hok 1 u n F z E D C A t q m i d a f e j c J v w o I
     exact⟨H2,xh,V,T,R⟩
    ·intro h H' Z
     exact O (by rw[W,h];simp) H' Z
    ·intro h H' xh' M h'
     exact S ⟨K,by rw[W];exact h⟩ H' xh' M h'
   ·by_cases T:k1=2
    ·subst T
     have W:tL us0 qs gr0 b ⟨2,u,(⟨n,⟨F,z,E⟩,D,⟨⟨⟨C,A,t⟩,q⟩,m⟩,⟨⟨i,d,a⟩,f⟩,⟨e,j⟩,N⟩:aK),c,J,v,w,o⟩=C3 us0 qs gr0 b ⟨2,u,(⟨n,⟨F,z,E⟩,D,⟨⟨⟨C,A,t⟩,q⟩,m⟩,⟨⟨i,d,a⟩,f⟩,⟨e,j⟩,N⟩:aK),c,J,v,w,o⟩:=rfl
     refine J7 hx (by omega) U hI Y (fi:=149) (fd:=150) (b':=Pd b (⟨2,u,(⟨n,⟨F,z,E⟩,D,⟨⟨⟨C,A,t⟩,q⟩,m⟩,⟨⟨i,d,a⟩,f⟩,⟨e,j⟩,N⟩:aK),c,J,v,w,o⟩,x)) (by kernel_rfl) (by kernel_rfl) 2 u n F z E D C A t q m i d a f e j c J v w o I L X (λg=>UJ) K (ft:=C3 us0 qs gr0 b ⟨2,u,(⟨n,⟨F,z,E⟩,D,⟨⟨⟨C,A,t⟩,q⟩,m⟩,⟨⟨i,d,a⟩,f⟩,⟨e,j⟩,N⟩:aK),c,J,v,w,o⟩)
      (λH' G=>UQ (dep+1) G.g.fr G.bk.at hok hul hql 2 u n F z E D C A t q m i d a f e j c J v w o I L) ?_ ?_ ?_
     ·intro _ H' G
      by_cases hc:c=0
      ·subst hc
       exact Xa (dep+1) G.g.fr G.bk hok 2 u n F z E D C A t q m i d a f e j J v w o I L
      ·obtain⟨H2,V,T,R⟩:=Z3 (dep+1) G.g.fr G.bk hok 2 u n F z E D C A t q m i d a f e j c J v w o I hc
       have hd:vL b (⟨n,⟨F,z,E⟩,D,⟨⟨⟨C,A,t⟩,q⟩,m⟩,⟨⟨i,d,a⟩,f⟩,⟨e,j⟩,N⟩:aK) c ct=Pd b (⟨2,u,(⟨n,⟨F,z,E⟩,D,⟨⟨⟨C,A,t⟩,q⟩,m⟩,⟨⟨i,d,a⟩,f⟩,⟨e,j⟩,N⟩:aK),c,J,v,w,o⟩,x):=by simp[Pd,vL,hc,Hd]
       rw[hd]at T
       exact⟨H2,xh,V,T,R⟩
     ·intro h H' Z
      exact O (by rw[W,h];simp) H' Z
     ·intro h H' xh' M h'
      exact S ⟨K,by rw[W];exact h⟩ H' xh' M h'
    ·have R:k1=3:=by
      by_cases R:k1=3
      ·exact R
      ·simp[cT,V,T,R]at K
     subst R
     have W:tL us0 qs gr0 b ⟨3,u,(⟨n,⟨F,z,E⟩,D,⟨⟨⟨C,A,t⟩,q⟩,m⟩,⟨⟨i,d,a⟩,f⟩,⟨e,j⟩,N⟩:aK),c,J,v,w,o⟩=EH qs b ⟨3,u,(⟨n,⟨F,z,E⟩,D,⟨⟨⟨C,A,t⟩,q⟩,m⟩,⟨⟨i,d,a⟩,f⟩,⟨e,j⟩,N⟩:aK),c,J,v,w,o⟩:=rfl
     refine J7 hx (by omega) U hI Y (fi:=151) (fd:=153) (b':=Pd b (⟨3,u,(⟨n,⟨F,z,E⟩,D,⟨⟨⟨C,A,t⟩,q⟩,m⟩,⟨⟨i,d,a⟩,f⟩,⟨e,j⟩,N⟩:aK),c,J,v,w,o⟩,x)) (by kernel_rfl) (by kernel_rfl) 3 u n F z E D C A t q m i d a f e j c J v w o I L X (λg=>UI) K (ft:=EH qs b ⟨3,u,(⟨n,⟨F,z,E⟩,D,⟨⟨⟨C,A,t⟩,q⟩,m⟩,⟨⟨i,d,a⟩,f⟩,⟨e,j⟩,N⟩:aK),c,J,v,w,o⟩)
      (λH' G=>UP (dep+1) G.g.fr G.bk.at hok hul hql 3 u n F z E D C A t q m i d a f e j c J v w o I) ?_ ?_ ?_
     ·intro h H' G
      obtain⟨H2,V,T,R⟩:=Z2 (dep+1) G.g.fr G.bk hok 3 u n F z E D C A t q m i d a f e j c J v w o I hql (by simpa [EH] using h)
      exact⟨H2,xh,V,T,R⟩
     ·intro h H' Z
      exact O (by rw[W,h];simp) H' Z
     ·intro h H' xh' M h'
      exact S ⟨K,by rw[W];exact h⟩ H' xh' M h'
end
end Go.Proofs.YtmkmimgokagimaaGreat
namespace Go.Proofs.YtmkmimgokagimaaGreat
open Go.Ab
attribute [local simp] aW aJ aH aV aU cr ld bf aQ aT cz cw bI bg aC bH gh
theorem Ph{f:FuncId}(b:(env.mode f == 2)=false)(c:Bool)(dep:Nat){H:ai}(r:Ref){args xs:List AV}(g:args.mapM (view H.get depth)=some xs)(h:cq H.get args=[]){y:AV}(d:aF env f xs=some y) :
 nc env c (aF env) (cg env dep) H r (some (.fn (.func f) [] [])) args=some ((aE r depth y []).1,keyed r 0 (AD true (aE r depth y []).2) H):=by
 have a:env.mode f≠2:=by simpa using b
 have e:([]++args++[]:List AV)=args:=by simp
 unfold nc
 simp only[ku,if_neg a,e,g,d,h]
 simp[kg,mQ,E3]
section
variable{xu xq:AV}{us:List Clear}{qs:List ax}{gr:Int}(hu:Sl 3 (bZ us) xu)(hq:Sl 5 (bS qs) xq)(hul:us.length<1000000)(hql:qs.length<1000000)
include hu hq hul hql
theorem Y9(dep d t:Nat){gg:Nat}{H:ai}(j:Fr H)(i:gg=H.gen d t) : ∃g h v l H',nc env false (aF env) (cg env dep) H ⟨d,t,gg,0⟩ (some (.fn (.func 160) [] [])) [.agg [xu,xq,aI gr]]=some (.agg [g,h,aI gr],H')/\bF H H'/\jL 3 (bZ us) H' g v/\jL 5 (bS qs) H' h l:=by
 subst i
 have o:=PN (gr:=gr) hu hq (by omega) (by omega)
 have u:=vn hu
 have n:=vn hq
 generalize rH xu=g at *
 generalize rH xq=h at *
 have m:=Ph (H:=H) (f:=160) (by kernel_rfl) false dep ⟨d,t,H.gen d t,0⟩ (args:=[.agg [xu,xq,aI gr]]) (by simp[hu.r,hq.r]) (by simp[hu.r,hq.r]) o
 rw[m]
 have a : ∀(q:Ref)(c:bz),H.get q=some c ->∀k,(⟨d,t,H.gen d t,k⟩:Ref)≠q:=by
  intro q c hq k
  have p:(H.get q).isSome=true:=by rw[hq];rfl
  exact pZ j p _ _ _
 rcases u with ⟨rfl,b⟩ | rfl | ⟨rfl,b⟩<;>rcases n with ⟨rfl,e⟩ | rfl | ⟨rfl,e⟩
 ·simp[aE,AD,keyed]
  refine⟨ct,ct,ct,ct,_,⟨⟨by simp,by simp⟩,rfl⟩,⟨?_,λq c hq=>?_⟩,.inl ⟨rfl,.inl ⟨rfl,b⟩⟩,.inl ⟨rfl,.inl ⟨rfl,e⟩⟩⟩
  ·exact by simp(maxDischargeDepth:=12) [ai.get_put,aq,aj,Fr.nil,aw,af,ah,ad,ae,ao,ak,aa, *]
  ·simp[a q c hq,hq]
 ·simp[aE,AD,keyed]
  refine⟨ct,.cL ⟨d,t,H.gen d t,0⟩ 0 (bS qs).length none,ct,.bW 5 (bS qs) none,_,⟨⟨by simp,by simp⟩,rfl⟩,⟨?_,λq c hq=>?_⟩,.inl ⟨rfl,.inl ⟨rfl,b⟩⟩,.inr ⟨_,none,rfl,by simp,rfl,dc _⟩⟩
  ·exact by simp(maxDischargeDepth:=12) [ai.get_put,aq,aj,Fr.nil,aw,af,ah,ad,ae,ao,ak,aa, *]
  ·simp[a q c hq,hq]
 ·simp[aE,AD,keyed]
  refine⟨ct,.cL ⟨d,t,H.gen d t,0⟩ 0 0 (some 0),ct,.bW 5 (bS qs) (some 0),_,⟨⟨by simp,by simp⟩,rfl⟩,⟨?_,λq c hq=>?_⟩,.inl ⟨rfl,.inl ⟨rfl,b⟩⟩,.inr ⟨_,some 0,by rw[e];rfl,by simp[e],rfl,by rw[e];simp⟩⟩
  ·exact by simp(maxDischargeDepth:=12) [ai.get_put,aq,aj,Fr.nil,aw,af,ah,ad,ae,ao,ak,aa, *]
  ·simp[a q c hq,hq]
 ·simp[aE,AD,keyed]
  refine⟨.cL ⟨d,t,H.gen d t,0⟩ 0 (bZ us).length none,ct,.bW 3 (bZ us) none,ct,_,⟨⟨by simp,by simp⟩,rfl⟩,⟨?_,λq c hq=>?_⟩,.inr ⟨_,none,rfl,by simp,rfl,dc _⟩,.inl ⟨rfl,.inl ⟨rfl,e⟩⟩⟩
  ·exact by simp(maxDischargeDepth:=12) [ai.get_put,aq,aj,Fr.nil,aw,af,ah,ad,ae,ao,ak,aa, *]
  ·simp[a q c hq,hq]
 ·simp[aE,AD,keyed]
  refine⟨.cL ⟨d,t,H.gen d t,0⟩ 0 (bZ us).length none,.cL ⟨d,t,H.gen d t,1⟩ 0 (bS qs).length none,.bW 3 (bZ us) none,.bW 5 (bS qs) none,_,⟨⟨by simp,by simp⟩,rfl⟩,⟨?_,λq c hq=>?_⟩,.inr ⟨_,none,rfl,by simp,rfl,dc _⟩,.inr ⟨_,none,rfl,by simp,rfl,dc _⟩⟩
  ·exact by simp(maxDischargeDepth:=12) [ai.get_put,aq,aj,Fr.nil,aw,af,ah,ad,ae,ao,ak,aa, *]
  ·simp[a q c hq,hq]
 ·simp[aE,AD,keyed]
  refine⟨.cL ⟨d,t,H.gen d t,0⟩ 0 (bZ us).length none,.cL ⟨d,t,H.gen d t,1⟩ 0 0 (some 0),.bW 3 (bZ us) none,.bW 5 (bS qs) (some 0),_,⟨⟨by simp,by simp⟩,rfl⟩,⟨?_,λq c hq=>?_⟩,.inr ⟨_,none,rfl,by simp,rfl,dc _⟩,.inr ⟨_,some 0,by rw[e];rfl,by simp[e],rfl,by rw[e];simp⟩⟩
  ·exact by simp(maxDischargeDepth:=12) [ai.get_put,aq,aj,Fr.nil,aw,af,ah,ad,ae,ao,ak,aa, *]
  ·simp[a q c hq,hq]
 ·simp[aE,AD,keyed]
  refine⟨.cL ⟨d,t,H.gen d t,0⟩ 0 0 (some 0),ct,.bW 3 (bZ us) (some 0),ct,_,⟨⟨by simp,by simp⟩,rfl⟩,⟨?_,λq c hq=>?_⟩,.inr ⟨_,some 0,by rw[b];rfl,by simp[b],rfl,by rw[b];simp⟩,.inl ⟨rfl,.inl ⟨rfl,e⟩⟩⟩
  ·exact by simp(maxDischargeDepth:=12) [ai.get_put,aq,aj,Fr.nil,aw,af,ah,ad,ae,ao,ak,aa, *]
  ·simp[a q c hq,hq]
 ·simp[aE,AD,keyed]
  refine⟨.cL ⟨d,t,H.gen d t,0⟩ 0 0 (some 0),.cL ⟨d,t,H.gen d t,1⟩ 0 (bS qs).length none,.bW 3 (bZ us) (some 0),.bW 5 (bS qs) none,_,⟨⟨by simp,by simp⟩,rfl⟩,⟨?_,λq c hq=>?_⟩,.inr ⟨_,some 0,by rw[b];rfl,by simp[b],rfl,by rw[b];simp⟩,.inr ⟨_,none,rfl,by simp,rfl,dc _⟩⟩
  ·exact by simp(maxDischargeDepth:=12) [ai.get_put,aq,aj,Fr.nil,aw,af,ah,ad,ae,ao,ak,aa, *]
  ·simp[a q c hq,hq]
 ·simp[aE,AD,keyed]
  refine⟨.cL ⟨d,t,H.gen d t,0⟩ 0 0 (some 0),.cL ⟨d,t,H.gen d t,1⟩ 0 0 (some 0),.bW 3 (bZ us) (some 0),.bW 5 (bS qs) (some 0),_,⟨⟨by simp,by simp⟩,rfl⟩,⟨?_,λq c hq=>?_⟩,.inr ⟨_,some 0,by rw[b];rfl,by simp[b],rfl,by rw[b];simp⟩,.inr ⟨_,some 0,by rw[e];rfl,by simp[e],rfl,by rw[e];simp⟩⟩
  ·exact by simp(maxDischargeDepth:=12) [ai.get_put,aq,aj,Fr.nil,aw,af,ah,ad,ae,ao,ak,aa, *]
  ·simp[a q c hq,hq]
def BE(us:List Clear)(gr:Int):fZ:=⟨us,gr,[],[],[]⟩
def nO(us:List Clear)(qs:List ax)(gr:Int)(l:List (cH × AV)):Option fZ:=if tF us qs gr=true/\l.length<=2048 then Un us qs gr (BE us gr) l else none
theorem Ra{l:List (cH × AV)}{E:AV}(w:Sl 24 (bY l) E)(n : ∀p∈l,z6 p)(dep:Nat){H:ai}(K:Fr H) :
 ∃y H',cg env dep (.fn 100) [.agg [xu,xq,aI gr],E] H=some (y,H')/\Hu H us qs gr (l.map Ix) (nO us qs gr l) y H':=by
 have x:bN env Tryz.f100 (dep+1) [.code Kz] (rL 0 [.agg [xu,xq,aI gr],E]) H λy H'=>Hu H us qs gr (l.map Ix) (nO us qs gr l) y H':=by
  have J:=CB (gr:=gr) hu hq (by omega) (by omega)
  have d : ∀b1:bz,bF H ((⟨dep+1,2,H.gen (dep+1) 2,0⟩,some b1) :: H):=λb1=>bF.cons K _ _ _
  refine JH _ _ _ _ _ λg=>?_
  have e : ¬(tF us qs gr=true/\l.length<=2048) ->∀H',bF H H'->Hu H us qs gr (l.map Ix) (nO us qs gr l) (.tup [.v (.pointer none),aB false]) H':=λN H' u=>by
   unfold nO;rw[if_neg N];exact⟨rfl,u⟩
  cases hp:tF us qs gr with
  | false=>
   rw[hp]at J e
   have b:=λb1=>e (by simp) _ (d b1)
   simp[af,ah,ad,ae,aa, *,uB,w.r,hu.r,hq.r,bad]
   all_goals exact b _
  | true=>
   rw[hp]at J
   by_cases z:l.length<=2048
   ·have D : ¬(2048:Int)<l.length:=by omega
    obtain⟨O,P,T,L,a,U,u,F,G⟩:=Y9 (gr:=gr) hu hq hul hql (dep+1) (dep+1) 20 (gg:=H.gen (dep+1) 20) (d ⟨3,[.agg [xu,xq,aI gr]],false,false⟩).fr (by simp)
    have i:=u.fr
    have o:=(d _).trans u
    have c1:=F.s.cells
    have c2:=G.s.cells
    have A:=λH=>P4 true (dep+1) H (dep+1) 25
    clear e
    simp[af,ah,ad,ae,aa, *,uB,w.r,hu.r,hq.r,bad,A]
    have C:nO us qs gr l=Un us qs gr (BE us gr) l:=by unfold nO;rw[if_pos ⟨hp,z⟩]
    refine W1 (rb:=⟨dep+1,24,a.gen (dep+1) 24,0⟩) (rs:=⟨dep+1,21,a.gen (dep+1) 21,0⟩) (ru:=⟨dep+1,22,a.gen (dep+1) 22,0⟩) (rk:=⟨dep+1,25,a.gen (dep+1) 25,0⟩) (gr0:=gr) (dep:=dep) (H0:=H)
     (Q:=λy H'=>Hu H us qs gr (l.map Ix) (nO us qs gr l) y H') w z n hul hql l 0 (BE us gr) [] _ ct ct rfl (by omega) rfl ⟨λp h=>(by cases h),λp h=>(by cases h),λp h=>(by cases h),(by simp[BE]),(by simpa [BE] using hul)⟩ (by simp[BE]) ?_ (λy H' h=>by rw[C];exact h)
    have m : ∀b1 b2 b3 I:bz,bF a ((⟨dep+1,25,a.gen (dep+1) 25,0⟩,some I) :: (⟨dep+1,24,a.gen (dep+1) 24,0⟩,some b3) :: (⟨dep+1,22,a.gen (dep+1) 22,0⟩,some b2) :: (⟨dep+1,21,a.gen (dep+1) 21,0⟩,some b1) :: a):=λb1 b2 b3 I=>⟨by simp(maxDischargeDepth:=12) [ai.get_put,aq,aj,Fr.nil,aw,af,ah,ad,ae,ao,ak,aa, *],λq c hq=>by
     have R:(a.get q).isSome=true:=by rw[hq];rfl
     simp[af i R,hq]⟩
    have k : ∀t,H.get ⟨dep+1,t,a.gen (dep+1) t,0⟩=none:=λt=>by
     cases j:H.get ⟨dep+1,t,a.gen (dep+1) t,0⟩ with
     | none=>rfl
     | some c=>have:=o.old _ _ j;rw[ao i]at this;cases this
    refine⟨o.trans (m _ _ _ _),⟨⟨xu,xq,O,P,T,L,?_,hu,hq,F.grow (m _ _ _ _),G.grow (m _ _ _ _)⟩,?_,?_,.inl ⟨rfl,rfl⟩,⟨rfl,rfl⟩,?_,λr j=>(by cases j)⟩,.inl ⟨rfl,rfl⟩,λr j=>(by cases j),λr j=>(by cases j),?_,⟨rfl,rfl,rfl,rfl⟩,⟨k _,k _,k _⟩⟩
    ·simp[BE]
    ·simp[BE,cF]
    ·simp[BE,cF]
    ·simp[AV.at?]
    ·simp
   ·have D:(2048:Int)<l.length:=by omega
    have b:=λb1=>e (by simp[z]) _ (d b1)
    simp[af,ah,ad,ae,aa, *,uB,w.r,hu.r,hq.r,bad]
    all_goals exact b _
 obtain⟨y,H',M,S⟩:=lB (f:=100) (by kernel_rfl) (by kernel_rfl) (by kernel_rfl) (by kernel_rfl) (by kernel_rfl) x
 exact⟨y,H',M,S⟩
end
end Go.Proofs.YtmkmimgokagimaaGreat
namespace Go.Proofs.YtmkmimgokagimaaGreat
open Go.Ab
attribute [local simp] aW aJ aH aV aU cr ld bf aQ aT cz cw bI bg aC bH gh
def mF(o:Option fZ)(a:Int)(zero:AV)(R:fZ->AV->ai->Prop)(y:AV)(H:ai):Prop:=match o with
 | none=>y = .tup [zero,aI 8]
 | some b=>if a=0 then R b y H else y = .tup [zero,aI a]
section
variable{xu xq:AV}{us:List Clear}{qs:List ax}{gr:Int}(hu:Sl 3 (bZ us) xu)(hq:Sl 5 (bS qs) xq)(hul:us.length<1000000)(hql:qs.length<1000000){l:List (cH × AV)}{x1:AV}(hx:Sl 24 (bY l) x1)(hall : ∀p∈l,z6 p)
include hu hq hul hql hx hall
theorem Po(dep:Nat){H:ai}(C:Fr H)(a:Int){fd:FuncId}(D:(env.mode fd == 2)=true){caps:List AV}{R:fZ->AV->ai->Prop}
 (n:a=0 ->∀b c rb rs ru q d,nO us qs gr l=some b->bF H c->iM c rb rs ru q d us qs gr b->Own 24 (bY (l.map Ix)) c d->(∀r,d.at?=some r->r.t=62)->pd b ->∃z e w,cg env (dep+1) (.fn fd) ([]++[.ptr rb 0 0]++caps) c=some (.tup [z,e],w)/\R b (.tup [z,e]) w) :
 ∃y H',cg env dep (.fn 81) [.agg [xu,xq,aI gr],x1,aI a,.fn (.func fd) [] caps] H=some (y,H')/\mF (nO us qs gr l) a (aB false) R y H':=by
 have u:bN env Tryz.f81 (dep+1) [.code Aa] (rL 0 [.agg [xu,xq,aI gr],x1,aI a,.fn (.func fd) [] caps]) H λy H'=>mF (nO us qs gr l) a (aB false) R y H':=by
  have h : ∀b1:bz,bF H ((⟨dep+1,4,H.gen (dep+1) 4,0⟩,some b1) :: H):=λb1=>bF.cons C _ _ _
  obtain⟨y,c,A,j⟩:=Ra (gr:=gr) hu hq hul hql hx hall (dep+1) (h ⟨3,[.agg [xu,xq,aI gr]],false,false⟩).fr
  refine zW _ _ _ _ _ _ _ λg=>?_
  unfold mF
  simp[af,ah,ad,ae,aa, *,sG,hx.r,hu.r,hq.r]
  refine tB (by kernel_rfl) A ?_
  cases k:nO us qs gr l with
  | none=>
   rw[k]at j
   obtain⟨rfl,E⟩:=j
   simp
  | some b=>
   rw[k]at j
   obtain⟨rb,rs,ru,rk,q,d,rfl,i,m⟩:=j
   by_cases x:a=0
   ·subst x
    obtain⟨z,e,w,v,o⟩:=n rfl b c rb rs ru q d k ((h _).trans i.g) i.bk i.row (λr e=>(i.t62 r e).1) m
    simp
    refine tB D v ?_
    simp
    exact o
   ·simp[x]
 obtain⟨y,H',v,o⟩:=lB (f:=81) (by kernel_rfl) (by kernel_rfl) (by kernel_rfl) (by kernel_rfl) (by kernel_rfl) u
 exact⟨y,H',v,o⟩
theorem Rb:aF env 34 [.agg [xu,xq,aI gr],x1]=some (aI (if (nO us qs gr l).isSome then 0 else 8)):=by
 refine aG rfl (by kernel_rfl) (EZ _ _ _ _ λg=>?_)
 have c:Fr [(⟨0,2,0,0⟩,some ⟨3,[.agg [xu,xq,aI gr]],false,false⟩)]:=by simp(maxDischargeDepth:=12) [ai.get_put,aq,aj,Fr.nil,aw,af,ah,ad,ae,ao,ak,aa, *]
 obtain⟨y,k,e,a⟩:=Ra (gr:=gr) hu hq hul hql hx hall 0 c
 simp[af,ah,ad,ae,aa, *,zU,hx.r,hu.r,hq.r]
 refine tB (by kernel_rfl) e ?_
 cases d:nO us qs gr l with
 | none=>
  rw[d]at a
  obtain⟨rfl,h⟩:=a
  simp
 | some b=>
  rw[d]at a
  obtain⟨rb,rs,ru,rk,i,m,rfl,j,f⟩:=a
  simp
theorem RW(dep:Nat){H:ai}(Y:Fr H){rb rs ru:Ref}{Z X:AV}{b:fZ}(V:iM H rb rs ru Z X us qs gr b)(J:pd b){q:Ref}(k:UInt8)(u:Int)(n:UInt8)(G:UInt8)(A:UInt32)(F:UInt8)(E:Int)(D:UInt8)(C:UInt32)(y:UInt8)(t:Int)(j:Int)(h:UInt8)(d:UInt32)(a:UInt8)(f:Int)(e:UInt8)(i:UInt32)(c L:Int)(v:UInt8)(w:UInt32)(o:Bool){x:AV}{N:List Int}(z:Sl 1 (rows N) x)(O:N.length<1000000)
 (hr:H.get q=some ⟨24,[.agg [a8 k,aI u,a8 n,a8 G,au A,a8 F,aI E,a8 D,au C,a8 y,aI t,aI j,a8 h,au d,a8 a,aI f,a8 e,au i,x,aI c,aI L,a8 v,au w,aB o]],false,false⟩) (P:cT ⟨k,u,(⟨n,⟨G,A,F⟩,E,⟨⟨⟨D,C,y⟩,t⟩,j⟩,⟨⟨h,d,a⟩,f⟩,⟨e,i⟩,N⟩:aK),c,L,v,w,o⟩=true) :
 ∃H',cg env dep (.fn 83) [.ptr rb 0 0,.ptr q 0 0] H=some (.tup [aB (tL us qs gr b ⟨k,u,(⟨n,⟨G,A,F⟩,E,⟨⟨⟨D,C,y⟩,t⟩,j⟩,⟨⟨h,d,a⟩,f⟩,⟨e,i⟩,N⟩:aK),c,L,v,w,o⟩),aI 0],H')/\bF H H':=by
 refine eR (fn:=Tryz.f83) (c:=Eg) (by kernel_rfl) (by kernel_rfl) (by kernel_rfl) (by kernel_rfl) (by kernel_rfl) ?_
 have m : ∀b1:bz,bF H ((⟨dep+1,5,H.gen (dep+1) 5,0⟩,some b1) :: H):=λb1=>bF.cons Y _ _ _
 have K:=λH=>P4 false (dep+1) H (dep+1) 5
 have lr:(H.get q).isSome=true:=by rw[hr];rfl
 have I:=λb1=>V.grow (m b1)
 have W:k=1\/k=2\/k=3:=by
  by_cases Q:k=1
  ·exact .inl Q
  ·by_cases U:k=2
   ·exact .inr (.inl U)
   ·by_cases S:k=3
    ·exact .inr (.inr S)
    ·simp[cT,Q,U,S]at P
 refine DF _ _ _ _ _ λg=>?_
 clear hx hall
 rcases W with rfl | rfl | rfl
 ·have R:=UK (g:=ai.get ((⟨dep+1,5,H.gen (dep+1) 5,0⟩,some (bj sV)) :: H)) (r:=⟨dep+1,5,H.gen (dep+1) 5,0⟩) (by simp)
  simp[af,ah,ad,ae,aa, *,oQ,K,Sn,z.r]
  refine lO (by kernel_rfl) (UR (dep+1) (m _).fr (I _).at J hul hql 1 u n G A F E D C y t j h d a f e i c L v w o z) λT M=>?_
  have:=(m _).trans M
  simp[this]
  rfl
 ·have R:=UJ (g:=ai.get ((⟨dep+1,5,H.gen (dep+1) 5,0⟩,some (bj sV)) :: H)) (r:=⟨dep+1,5,H.gen (dep+1) 5,0⟩) (by simp)
  simp[af,ah,ad,ae,aa, *,oQ,K,Sn,z.r]
  refine lO (by kernel_rfl) (UQ (dep+1) (m _).fr (I _).at J hul hql 2 u n G A F E D C y t j h d a f e i c L v w o z O) λT M=>?_
  have:=(m _).trans M
  simp[this]
  rfl
 ·have R:=UI (g:=ai.get ((⟨dep+1,5,H.gen (dep+1) 5,0⟩,some (bj sV)) :: H)) (r:=⟨dep+1,5,H.gen (dep+1) 5,0⟩) (by simp)
  simp[af,ah,ad,ae,aa, *,oQ,K,Sn,z.r]
  refine lO (by kernel_rfl) (UP (dep+1) (m _).fr (I _).at J hul hql 3 u n G A F E D C y t j h d a f e i c L v w o z) λT M=>?_
  have:=(m _).trans M
  simp[this]
  rfl
def Pa(us:List Clear)(qs:List ax)(gr:Int)(l:List (cH × AV))(r:cH):AV:=match nO us qs gr l with
 | none => .tup [aB false,aI 8]
 | some b=>if cT r=true then .tup [aB (tL us qs gr b r),aI 0] else .tup [aB false,aI 8]
theorem Zm(k:UInt8)(u:Int)(q:UInt8)(I:UInt8)(C:UInt32)(G:UInt8)(F:Int)(E:UInt8)(D:UInt32)(A:UInt8)(t:Int)(n:Int)(j:UInt8)(d:UInt32)(a:UInt8)(i:Int)(f:UInt8)(m:UInt32)(c J:Int)(v:UInt8)(w:UInt32)(o:Bool){x:AV}{K:List Int}(M:Sl 1 (rows K) x)(N:K.length<1000000) :
 aF env 23 [.agg [xu,xq,aI gr],x1,.agg [a8 k,aI u,a8 q,a8 I,au C,a8 G,aI F,a8 E,au D,a8 A,aI t,aI n,a8 j,au d,a8 a,aI i,a8 f,au m,x,aI c,aI J,a8 v,au w,aB o]]=some (Pa us qs gr l ⟨k,u,(⟨q,⟨I,C,G⟩,F,⟨⟨⟨E,D,A⟩,t⟩,n⟩,⟨⟨j,d,a⟩,i⟩,⟨f,m⟩,K⟩:aK),c,J,v,w,o⟩):=by
 refine aG rfl (by kernel_rfl) (F9 _ _ _ _ _ λg=>?_)
 have O:Fr [(⟨0,5,0,0⟩,some ⟨24,[.agg [a8 k,aI u,a8 q,a8 I,au C,a8 G,aI F,a8 E,au D,a8 A,aI t,aI n,a8 j,au d,a8 a,aI i,a8 f,au m,x,aI c,aI J,a8 v,au w,aB o]],false,false⟩),(⟨0,3,0,0⟩,some ⟨3,[.agg [xu,xq,aI gr]],false,false⟩)]:=by simp(maxDischargeDepth:=12) [ai.get_put,aq,aj,Fr.nil,aw,af,ah,ad,ae,ao,ak,aa, *]
 have hC:=An k u q I C G F E D A t n j d a i f m c J v w o M N
 obtain⟨y,H2,Y,L⟩:=Po (gr:=gr) hu hq hul hql hx hall 0 O (if cT ⟨k,u,(⟨q,⟨I,C,G⟩,F,⟨⟨⟨E,D,A⟩,t⟩,n⟩,⟨⟨j,d,a⟩,i⟩,⟨f,m⟩,K⟩:aK),c,J,v,w,o⟩ then 0 else 8) (fd:=83) (by kernel_rfl) (caps:=[.ptr ⟨0,5,0,0⟩ 0 0])
  (R:=λb y H=>y = .tup [aB (tL us qs gr b ⟨k,u,(⟨q,⟨I,C,G⟩,F,⟨⟨⟨E,D,A⟩,t⟩,n⟩,⟨⟨j,d,a⟩,i⟩,⟨f,m⟩,K⟩:aK),c,J,v,w,o⟩),aI 0]) (λV b H2 rb rs ru xh xr Q W Z hr hrt S=>by
   have T:cT ⟨k,u,(⟨q,⟨I,C,G⟩,F,⟨⟨⟨E,D,A⟩,t⟩,n⟩,⟨⟨j,d,a⟩,i⟩,⟨f,m⟩,K⟩:aK),c,J,v,w,o⟩=true:=by
    by_cases h:cT ⟨k,u,(⟨q,⟨I,C,G⟩,F,⟨⟨⟨E,D,A⟩,t⟩,n⟩,⟨⟨j,d,a⟩,i⟩,⟨f,m⟩,K⟩:aK),c,J,v,w,o⟩=true
    ·exact h
    ·rw[if_neg h]at V;simp at V
   obtain⟨H3,h1,h2⟩:=RW (gr:=gr) hu hq hul hql hx hall 1 W.fr Z S k u q I C G F E D A t n j d a i f m c J v w o M N (W.old ⟨0,5,0,0⟩ _ (by simp)) T
   exact⟨_,_,H3,h1,rfl⟩)
 have X:y=Pa us qs gr l ⟨k,u,(⟨q,⟨I,C,G⟩,F,⟨⟨⟨E,D,A⟩,t⟩,n⟩,⟨⟨j,d,a⟩,i⟩,⟨f,m⟩,K⟩:aK),c,J,v,w,o⟩:=by
  unfold mF at L
  unfold Pa
  cases Q:nO us qs gr l with
  | none=>rw[Q]at L;exact L
  | some b=>
   rw[Q]at L
   cases U:cT ⟨k,u,(⟨q,⟨I,C,G⟩,F,⟨⟨⟨E,D,A⟩,t⟩,n⟩,⟨⟨j,d,a⟩,i⟩,⟨f,m⟩,K⟩:aK),c,J,v,w,o⟩ with
   | true=>simp only[U,if_true]at L ⊢;exact L
   | false=>simp[U]at L ⊢;exact L
 have P : ∃z e,Pa us qs gr l ⟨k,u,(⟨q,⟨I,C,G⟩,F,⟨⟨⟨E,D,A⟩,t⟩,n⟩,⟨⟨j,d,a⟩,i⟩,⟨f,m⟩,K⟩:aK),c,J,v,w,o⟩ = .tup [aB z,aI e]:=by
  unfold Pa
  split
  ·exact⟨_,_,rfl⟩
  ·split
   ·exact⟨_,_,rfl⟩
   ·exact⟨_,_,rfl⟩
 obtain⟨z,e,P⟩:=P
 rw[P]at X ⊢
 subst X
 clear L P hx hall O
 simp[af,ah,ad,ae,aa, *,AN,hu.r,hq.r,M.r]
 refine tB (by kernel_rfl) Y ?_
 simp
end
end Go.Proofs.YtmkmimgokagimaaGreat
namespace Go.Proofs.YtmkmimgokagimaaGreat
open Go.Ab
attribute [local simp] aW aJ aH aV aU cr ld bf aQ aT cz cw bI bg aC bH gh
theorem vg{E:Env}{f:FuncId}{fn:Func}{c:Code}{args:List AV}{R:AV->Prop}(e:E.spec f args=none)(d:E.allowed f=true)(w:E.P.funcs[f]?=some fn)(k:fn.body=some c)(u:Nat.ble args.length fn.ntmps=true)
 (h:bN E fn 0 [.code c] (rL 0 args) [] λx H =>∃y,handed E f x H y/\R y) : ∃y,aF E f args=some y/\R y:=by
 obtain⟨x,H,⟨y,a,v⟩,n,j⟩:=h.h (λ_=>AV.undef) args λi=>(GM args i).symm
 refine⟨y,Ba.2 ⟨n,λm g=>?_⟩,v⟩
 obtain⟨st,b,z,o⟩:=j m g
 subst o
 unfold bG
 rw[e]
 unfold vp
 simp only[d,if_true,w,k,if_pos (KL u),b,z,Option.map_some]
 unfold handed at a
 split
 ·rename_i b
  rw[if_pos b]at a
  rw[if_pos a.1]
  exact a.2
 ·rename_i b
  rw[if_neg b]at a
  exact a
section
variable{recs:List (cH × AV)}(hrl:recs.length<=2048)(hok : ∀p∈recs,z6 p){dep:Nat}{q:Ref}(hqt:q.t≠30/\q.t≠6){xr:AV}(hxt : ∀r,xr.at?=some r->r.t=62)(v1:UInt8)(v2:UInt32){Q:AV->ai->Prop}
include hrl hok hqt hxt
end
section
variable{xu xq:AV}{us:List Clear}{qs:List ax}{gr:Int}(hu:Sl 3 (bZ us) xu)(hq:Sl 5 (bS qs) xq)(hul:us.length<1000000)(hql:qs.length<1000000){l:List (cH × AV)}{x1:AV}(hx:Sl 24 (bY l) x1)(hall : ∀p∈l,z6 p)
include hu hq hul hql hx hall
end
end Go.Proofs.YtmkmimgokagimaaGreat
namespace Go.Proofs.YtmkmimgokagimaaGreat
open Go.Ab
attribute [local simp] aW aJ aH aV aU cr ld bf aQ aT cz cw bI bg aC bH gh
theorem Oe(u:UInt8)(N:UInt8)(G:UInt32)(M:UInt8)(L:Int)(J:UInt8)(I:UInt32)(C:UInt8)(w:Int)(q:Int)(i:UInt8)(d:UInt32)(c:UInt8)(f:Int)(e:UInt8)(n:UInt32)(A:UInt8)(F:UInt8)(E:UInt32)(D:UInt8)(v:Int)(z:UInt8)(K:UInt32)(H:UInt8)(O:Int)(o:Int)(h:UInt8)(k:UInt32)(t:UInt8)(j:Int)(a:UInt8)(b:UInt32){x y:AV}{l m:List Int}(hx:Sl 1 (rows l) x)(hy:Sl 1 (rows m) y)(hl:l.length<1000000000)(hm:m.length<1000000000):aF env 62 [.agg [a8 u,a8 N,au G,a8 M,aI L,a8 J,au I,a8 C,aI w,aI q,a8 i,au d,a8 c,aI f,a8 e,au n,x],.agg [a8 A,a8 F,au E,a8 D,aI v,a8 z,au K,a8 H,aI O,aI o,a8 h,au k,a8 t,aI j,a8 a,au b,y]]=some (aB (od (⟨u,⟨N,G,M⟩,L,⟨⟨⟨J,I,C⟩,w⟩,q⟩,⟨⟨i,d,c⟩,f⟩,⟨e,n⟩,l⟩:aK) (⟨A,⟨F,E,D⟩,v,⟨⟨⟨z,K,H⟩,O⟩,o⟩,⟨⟨h,k,t⟩,j⟩,⟨a,b⟩,m⟩:aK))):=by
 refine aG rfl (by kernel_rfl) (xF _ _ _ _ λg=>?_)
 have hq:=Tg hx hy (by omega)
 have Q:=hx.r
 have P:=hy.r
 unfold od
 cases c1:decide (u=A) with
 | false=>simp[af,ah,ad,ae,aa, *,cV,fJ,bU]
 | true=>
 cases c2:(decide (N=F)&&decide (G=E)&&decide (M=D)) with
 | false=>simp[af,ah,ad,ae,aa, *,cV,fJ,bU]
 | true=>
 cases c3:decide (L=v) with
 | false=>simp[af,ah,ad,ae,aa, *,cV,fJ,bU]
 | true=>
 cases c4:(decide (J=z)&&decide (I=K)&&decide (C=H)&&decide (w=O)&&decide (q=o)) with
 | false=>simp[af,ah,ad,ae,aa, *,cV,fJ,bU]
 | true=>
 cases c5:(decide (i=h)&&decide (d=k)&&decide (c=t)&&decide (f=j)) with
 | false=>simp[af,ah,ad,ae,aa, *,cV,fJ,bU]
 | true=>
 cases c6:(decide (e=a)&&decide (n=b)) with
 | false=>simp[af,ah,ad,ae,aa, *,cV,fJ,bU]
 | true=>simp[af,ah,ad,ae,aa, *,cV,fJ,bU]
theorem Wv(k1 k2:UInt8)(P Q:Int)(u:UInt8)(N:UInt8)(G:UInt32)(M:UInt8)(L:Int)(J:UInt8)(I:UInt32)(C:UInt8)(w:Int)(q:Int)(i:UInt8)(d:UInt32)(c:UInt8)(f:Int)(e:UInt8)(n:UInt32)(A:UInt8)(F:UInt8)(E:UInt32)(D:UInt8)(v:Int)(z:UInt8)(K:UInt32)(H:UInt8)(O:Int)(o:Int)(h:UInt8)(k:UInt32)(t:UInt8)(j:Int)(a:UInt8)(b:UInt32)(c1 c2 X Y:Int)(V W:UInt8)(S R:UInt32)(T U:Bool){x y:AV}{l m:List Int}(hx:Sl 1 (rows l) x)(hy:Sl 1 (rows m) y)(hl:l.length<1000000000)(hm:m.length<1000000000) :
 aF env 80 [.agg [a8 k1,aI P,a8 u,a8 N,au G,a8 M,aI L,a8 J,au I,a8 C,aI w,aI q,a8 i,au d,a8 c,aI f,a8 e,au n,x,aI c1,aI X,a8 V,au S,aB T],.agg [a8 k2,aI Q,a8 A,a8 F,au E,a8 D,aI v,a8 z,au K,a8 H,aI O,aI o,a8 h,au k,a8 t,aI j,a8 a,au b,y,aI c2,aI Y,a8 W,au R,aB U]] =
  some (aB (mJ ⟨k1,P,(⟨u,⟨N,G,M⟩,L,⟨⟨⟨J,I,C⟩,w⟩,q⟩,⟨⟨i,d,c⟩,f⟩,⟨e,n⟩,l⟩:aK),c1,X,V,S,T⟩ ⟨k2,Q,(⟨A,⟨F,E,D⟩,v,⟨⟨⟨z,K,H⟩,O⟩,o⟩,⟨⟨h,k,t⟩,j⟩,⟨a,b⟩,m⟩:aK),c2,Y,W,R,U⟩)):=by
 refine aG rfl (by kernel_rfl) (xC _ _ _ _ λg=>?_)
 have hq:=Oe u N G M L J I C w q i d c f e n A F E D v z K H O o h k t j a b hx hy hl hm
 have hr:=hx.r
 have Z:=hy.r
 unfold mJ
 cases e1:decide (k1=k2) with
 | false=>simp[af,ah,ad,ae,aa, *,eT,fJ,bU]
 | true=>
 cases e2:decide (P=Q) with
 | false=>simp[af,ah,ad,ae,aa, *,eT,fJ,bU]
 | true=>
 cases e3:od (⟨u,⟨N,G,M⟩,L,⟨⟨⟨J,I,C⟩,w⟩,q⟩,⟨⟨i,d,c⟩,f⟩,⟨e,n⟩,l⟩:aK) (⟨A,⟨F,E,D⟩,v,⟨⟨⟨z,K,H⟩,O⟩,o⟩,⟨⟨h,k,t⟩,j⟩,⟨a,b⟩,m⟩:aK) with
 | false=>simp[af,ah,ad,ae,aa, *,eT,fJ,bU]
 | true=>
 cases e4:decide (c1=c2) with
 | false=>simp[af,ah,ad,ae,aa, *,eT,fJ,bU]
 | true=>simp[af,ah,ad,ae,aa, *,eT,fJ,bU]
theorem Ug{a b:aK}(h:od a b=true):a=b:=by
 obtain⟨z,⟨M,C,L⟩,K,⟨⟨⟨H,F,P⟩,G⟩,u⟩,⟨⟨t,g,f⟩,j⟩,⟨i,n⟩,R⟩:=a
 obtain⟨O,⟨A,w,Q⟩,D,⟨⟨⟨J,I,E⟩,N⟩,o⟩,⟨⟨q,k,v⟩,e⟩,⟨c,d⟩,S⟩:=b
 simp[od]at h
 simp[h]
theorem S8{a b:cH}(h:mJ a b=true):a=b:=by
 obtain⟨a1,a2,a3,a4,a5,a6,a7,a8⟩:=a
 obtain⟨b1,b2,b3,o,q,u,n,t⟩:=b
 simp only[mJ,bh,decide_eq_true_eq]at h
 obtain⟨f,i,g,j,d,⟨e,c⟩,k⟩:=h
 rw[f,i,Ug g,j,d,e,c,k]
theorem Oa(a:cH):mJ a a=true:=by simp[mJ,od]
def PS(l:List (cH × AV)):List cH:=l.map (·.1)
@[simp] theorem afY(l:List (cH × AV)):(PS l).length=l.length:=by simp[PS]
theorem QM(a b:cH):mJ a b=true↔a=b:=⟨S8,λh=>by rw[h];exact Oa b⟩
theorem adG{p q:cH × AV}(hp:z6 p)(hq:z6 q):aF env 80 [p.1.val p.2,q.1.val q.2]=some (aB (mJ p.1 q.1)):=by
 obtain⟨⟨k,u,⟨F,⟨R,H,Q⟩,O,⟨⟨⟨M,K,U⟩,L⟩,C⟩,⟨⟨A,f,e⟩,i⟩,⟨h,n⟩,l⟩,c,g,v,w,o⟩,x⟩:=p
 obtain⟨⟨k',Y,⟨T,⟨G,E,V⟩,I,⟨⟨⟨P,N,J⟩,S⟩,t⟩,⟨⟨z,j,D⟩,d⟩,⟨a,b⟩,m⟩,Z,W,X,w',o'⟩,y⟩:=q
 exact Wv k k' u Y F R H Q O M K U L C A f e i h n T G E V I P N J S t z j D d a b c Z g W v X w w' o o' hp.1 hq.1 (by have:=hp.2;simp at this;omega) (by have:=hq.2;simp at this;omega)
def zL:List cH->List cH->Bool
 | [],[]=>true
 | a :: l,b :: m=>mJ a b&&zL l m
 | _,_=>false
theorem IE : ∀(l m:List cH),zL l m=true↔l=m:=by
 intro l
 induction l with
 | nil=>intro m;cases m<;>simp[zL]
 | cons a l c=>intro m;cases m with
  | nil=>simp[zL]
  | cons b m=>simp[zL,QM,c]
theorem QN{l m:List cH}(h:l.length≠m.length):zL l m=false:=by
 cases e:zL l m with
 | false=>rfl
 | true=>exact absurd (congrArg List.length ((IE l m).1 e)) h
section
variable{l m:List (cH × AV)}{x y:AV}(hx:Sl 24 (bY l) x)(hy:Sl 24 (bY m) y)(hl : ∀p∈l,z6 p)(hm : ∀p∈m,z6 p)(hbig:l.length<1000000)
include hx hy hl hm hbig
theorem JR(w:l.length=m.length){Q:AV->ai->Prop}{H:ai} : ∀(s t:List (cH × AV)) (k:Nat) (i:Int),l.drop k=s->m.drop k=t->k<=l.length->i=k->(Q (aB (zL (PS s) (PS t))) H) ->
 bN env Tryz.f22 0 fV [(5,aI i),(1,y),(0,x)] H Q:=by
 intro s
 induction s with
 | nil=>
  rintro t k i hs ht hk rfl hQ
  obtain rfl:=drop_nil hs hk
  rw[w,Ns]at ht
  subst ht
  refine m9 _ _ _ _ _ λg=>?_
  simp[af,ah,ad,ae,aa, *,fX,hx.r]
  all_goals simpa [PS,zL] using hQ
 | cons p s C=>
  rintro t k i hs ht hk rfl hQ
  obtain⟨F,D,v,n⟩:=drop_cons hs
  have A:k<m.length:=by omega
  obtain⟨q,t',rfl⟩ : ∃q t',t=q :: t':=by
   cases t with
   | nil=>have:=congrArg List.length ht;simp at this;omega
   | cons q t'=>exact⟨q,t',rfl⟩
  obtain⟨_,u,o,d⟩:=drop_cons ht
  have b:=hl p (D ▸ lY _)
  have h:=hm q (u ▸ lY _)
  have hq:=adG b h
  have I:=IntWalk.i64_in ((k:Int)+1) (by omega)
  have f:=C t' (k+1) ((k:Int)+1) v o (by omega) (by simp)
  have G:=b.1.r
  have E:=h.1.r
  have j:bX (bY l) k 0 24 true=some (p.1.val p.2):=by simp[bY,n,cH.val]
  have c:bX (bY m) k 0 24 true=some (q.1.val q.2):=by simp[bY,d,cH.val]
  have a:Q (aB (mJ p.1 q.1&&zL (PS s) (PS t'))) H:=hQ
  clear C hQ hl hm
  unfold cH.val at hq j c
  generalize mJ p.1 q.1=e at *
  refine m9 _ _ _ _ _ λg=>?_
  cases e with
  | false=>simp[af,ah,ad,ae,aa, *,fX,hx.r,hx.idx,hy.r,hy.idx];simpa using a
  | true=>
   rw[nx]at a
   have z:=f a
   clear f a
   simp[af,ah,ad,ae,aa, *,fX,hx.r,hx.idx,hy.r,hy.idx]
theorem QV:aF env 22 [x,y]=some (aB (zL (PS l) (PS m))):=by
 refine aG rfl (by kernel_rfl) (uX _ _ _ _ λg=>?_)
 by_cases a:l.length=m.length
 ·have h:=JR hx hy hl hm hbig a (Q:=λv H=>handed env 22 v H (aB (zL (PS l) (PS m)))) (H:=[]) l m 0 0 rfl rfl (by omega) rfl (by simp)
  have b:=hx.r
  have d:=hy.r
  rw[ew]at b d
  rw[a]at b
  clear hl hm
  simp[af,ah,ad,ae,aa, *,kK]
  exact h
 ·have c : ¬(l.length:Int)=m.length:=by omega
  rw[QN (by simpa using a)]
  clear hl hm
  simp[af,ah,ad,ae,aa, *,kK,hx.r,hy.r]
end
section
variable{xu xq:AV}{us:List Clear}{qs:List ax}{gr:Int}(hu:Sl 3 (bZ us) xu)(hq:Sl 5 (bS qs) xq){l:List (cH × AV)}{x:AV}(hx:Sl 24 (bY l) x)(hl : ∀p∈l,Sl 1 (rows p.1.op.l) p.2)(most:Int)
include hu hq hx hl
theorem O3{q:Ref}{Q:AV->ai->Prop}{H:ai}(P:H.get q=some ⟨3,[.agg [xu,xq,aI gr]],false,false⟩)(e : ∀t:Bool,(t=false->us.length<=100/\qs.length<=100/\(l.length:Int)<=most /\∀p∈l.take 300,p.1.op.l.length<=300)->Q (aB t) H) :
 ∀(s:List (cH × AV)) (k:Nat) (i n:Int),l.drop k=s->k<=l.length->i=k->k<=300->0<=n->n<=1000 * k->(∀p∈l.take k,min (p.1.op.l.length:Int) 1000<=n) ->
 bN env Tryz.f13 0 eX [(8,aI i),(1,x),(7,aI n),(2,aI most),(3,.ptr q 0 0)] H Q:=by
 intro s
 have O:=Ts gr hu hq
 have a : ∀n:Int,(∀p∈l.take 300,min (p.1.op.l.length:Int) 1000<=n)->Q (aB (decide (100<(us.length:Int))||decide (100<(qs.length:Int))||decide (most<l.length)||decide (300<n))) H:=by
  intro n f
  refine e _ λh=>?_
  simp at h
  refine⟨by omega,by omega,by omega,λp hp=>?_⟩
  have:=f p hp
  omega
 generalize (decide (100<(us.length:Int))||decide (100<(qs.length:Int)))=gg at *
 induction s with
 | nil=>
  rintro k i n hs hk rfl A h0 f hm
  obtain rfl:=drop_nil hs hk
  rw[FL]at hm
  have d:=a n (λp hp=>hm p (zH hp))
  refine nW _ _ _ _ _ _ _ λg=>?_
  clear e a hl hm
  cases gg<;>by_cases c:most<l.length<;>simp[af,ah,ad,ae,aa, *,gY,hx.r,hu.r,hq.r]
  all_goals simpa [c] using d
 | cons p s u=>
  rintro k i n hs hk rfl A h0 f hm
  obtain⟨M,J,o,b⟩:=drop_cons hs
  have I:=(hl p (J ▸ lY _)).r
  have R:=IntWalk.i64_in ((k:Int)+1) (by omega)
  refine nW _ _ _ _ _ _ _ λg=>?_
  have L:(k:Int)<l.length:=by omega
  by_cases D:k<300
  ·have j:(k:Int)<300:=by omega
   have F:bX (bY l) k 18 1 false=some p.2:=by simp[bY,b,cH.val]
   have C:bX (bY l) k 11 1 false=some (aI p.1.op.s.many):=by simp[bY,b,cH.val]
   have v:=λm (K:0<=m) (N:m<=1000) (A:min (p.1.op.l.length:Int) 1000<=m)=>u (k+1) ((k:Int)+1) (n+m) o (by omega) (by simp) (by omega) (by omega) (by omega) (by
    intro q hq
    rw[Jt,b]at hq
    rcases nR.1 hq with hq | hq
    ·have:=hm q hq;omega
    ·simp at hq;subst hq;omega)
   have G:=λm (K:0<=m) (N:m<=1000)=>IntWalk.i64_in (n+m) (by omega)
   clear u e a hl hm
   simp[af,ah,ad,ae,aa, *,gY,hx.r,hx.idx]
   rw[G _ (by repeat' split<;>omega) (by repeat' split<;>omega)]
   exact v _ (by repeat' split<;>omega) (by repeat' split<;>omega) (by repeat' split<;>omega)
  ·have w:k=300:=by omega
   subst w
   have d:=a n hm
   have z:300<l.length:=by omega
   have E:(300:Int)<l.length:=by omega
   clear u e a hl hm
   cases gg<;>by_cases c:most<l.length<;>simp[af,ah,ad,ae,aa, *,gY,hx.r,hu.r,hq.r]
   all_goals simpa [c] using d
theorem Tz : ∃t:Bool,aF env 13 [.agg [xu,xq,aI gr],x,aI most]=some (aB t)/\(t=false->us.length<=100/\qs.length<=100/\(l.length:Int)<=most /\∀p∈l.take 300,p.1.op.l.length<=300):=by
 have h : ∃y,aF env 13 [.agg [xu,xq,aI gr],x,aI most]=some y /\∃t:Bool,y=aB t/\(t=false->us.length<=100/\qs.length<=100/\(l.length:Int)<=most /\∀p∈l.take 300,p.1.op.l.length<=300):=by
  refine vg (fn:=Tryz.f13) (c:=wZ) (by kernel_rfl) (by kernel_rfl) (by kernel_rfl) (by kernel_rfl) (by kernel_rfl) ?_
  refine wI _ _ _ _ _ λg=>?_
  have a:=λ(q:Ref)(H:ai)(f:H.get q=some ⟨3,[.agg [xu,xq,aI gr]],false,false⟩)=>O3 (q:=q) (H:=H) (Q:=λx H =>∃y,handed env 13 x H y /\∃t:Bool,y=aB t/\(t=false->us.length<=100/\qs.length<=100/\(l.length:Int)<=most /\∀p∈l.take 300,p.1.op.l.length<=300)) (gr:=gr) hu hq hx hl most f (λt e=>⟨aB t,by simp,t,rfl,e⟩) l 0 0 0 rfl (by omega) rfl (by simp) (by simp) (by simp) (by simp)
  have key : ∀Q:AV->ai->Prop,(∀(q:Ref)(H:ai),H.get q=some ⟨3,[.agg [xu,xq,aI gr]],false,false⟩->bN env Tryz.f13 0 eX [(8,aI 0),(1,x),(7,aI 0),(2,aI most),(3,.ptr q 0 0)] H Q)->lQ g (.agg [xu,xq,aI gr]) x (aI most) [] Q:=by
   intro Q h
   clear a
   simp[af,ah,ad,ae,aa, *,lQ,hu.r,hq.r]
  exact key _ a
 obtain⟨y,b,t,rfl,d⟩:=h
 exact⟨t,b,d⟩
end
end Go.Proofs.YtmkmimgokagimaaGreat
namespace Go.Proofs.YtmkmimgokagimaaGreat
open Go.Ab
theorem Um{us0:List Clear}{qs:List ax}{gr0:Int} : ∀(l:List (cH × AV)) {b b':fZ},Un us0 qs gr0 b l=some b' ->∀p∈l,cT p.1=true
 | [],_,_,_=>by intro p hp;cases hp
 | q :: l,b,b',h=>by
  unfold Un at h
  split at h
  ·rename_i a
   intro p hp
   rcases m6.1 hp with rfl | hp
   ·exact a.1
   ·exact Um l h p hp
  ·cases h
theorem ZU{us:List Clear}{qs:List ax}{gr:Int}{l:List (cH × AV)}{b:fZ}(h:nO us qs gr l=some b) : ∀p∈l,cT p.1=true:=by
 unfold nO at h
 split at h
 ·exact Um l h
 ·cases h
end Go.Proofs.YtmkmimgokagimaaGreat
namespace Go.Proofs.YtmkmimgokagimaaGreat
open Go.Ab
attribute [local simp] aW aJ aH aV aU cr ld bf aQ aT cz cw bI bg aC bH gh
def Bh(h:sj)(sr:Int)(p:cH × AV):Bool:=decide (p.1.kind=2)&&(decide (p.1.op.h=h)&&decide (p.1.op.serial=sr))
def oA(h:sj)(sr:Int)(l:List (cH × AV)):AV:=match l.find? (Bh h sr)with | some p => .tup [aI p.1.code,aI 0] | none => .tup [aI 0,aI 6]
section
variable{recs:List (cH × AV)}(hrl:recs.length<=2048)(hok : ∀p∈recs,z6 p){dep:Nat}{q1 q2:Ref}{xr:AV}(h1:UInt8)(h2:UInt32)(h3:UInt8)(sr:Int){Q:AV->ai->Prop}
include hrl hok
theorem R5 : ∀(s:List (cH × AV)) (k:Nat) (H:ai),recs.drop k=s->k<=recs.length->Fr H->Own 24 (bY recs) H xr->H.get q1=some ⟨3,[.agg [a8 h1,au h2,a8 h3]],false,false⟩->H.get q2=some ⟨1,[aI sr],false,false⟩ ->
 (∀H',bF H H'->Q (oA ⟨h1,h2,h3⟩ sr s) H')->bN env Tryz.f95 (dep+1) mU [(13,aI k),(2,.ptr q2 0 0),(1,.ptr q1 0 0),(11,xr),(12,aI recs.length)] H Q:=by
 intro s
 induction s with
 | nil=>
  rintro k H hs hk hF hr hq1 hq2 hQ
  obtain rfl:=drop_nil hs hk
  have A:=hQ H (bF.refl hF)
  refine kC _ _ _ _ _ _ _ _ λg=>?_
  clear hQ hr hok
  unfold oA at A
  simp[af,ah,ad,ae,aa, *,iW]
  all_goals exact A
 | cons p s X=>
  rintro k H hs hk hF hr hq1 hq2 hQ
  obtain⟨R,W,P,L⟩:=drop_cons hs
  have hp:=hok p (W ▸ lY R)
  have e3:=IntWalk.i64_in ((k:Int)+1) (by omega)
  have Y:(k:Int)<recs.length:=by omega
  obtain⟨r,rfl,T⟩ : ∃r,xr = .cL r 0 recs.length none/\H.get r=some ⟨24,bY recs,true,false⟩:=by
   rcases hr with ⟨rfl,h⟩ | ⟨r,rfl,h⟩
   ·have:=congrArg List.length h;simp at this;subst this;simp at R
   ·exact⟨r,by simp,h⟩
  have i : ∀b1:bz,bF H ((⟨dep+1,7,H.gen (dep+1) 7,0⟩,some b1) :: H):=λb1=>bF.cons hF _ _ _
  have b:=λ(h:Bh ⟨h1,h2,h3⟩ sr p=false) b1=>X (k+1) _ P (by omega) (i b1).fr (Own.grow hr (i b1)) ((i b1).old _ _ hq1) ((i b1).old _ _ hq2) (λH' hG=>by
   have:=hQ H' ((i b1).trans hG)
   unfold oA at this ⊢
   rw[FG,h]at this
   exact this)
  have a:=λ(h:Bh ⟨h1,h2,h3⟩ sr p=true) b1=>by
   have:=hQ _ (i b1)
   unfold oA at this
   rw[FG,h]at this
   exact this
  clear hQ X
  obtain⟨⟨k1,u,⟨G,⟨f,d,e⟩,m,⟨⟨⟨O,N,K⟩,J⟩,D⟩,⟨⟨z,q,n⟩,y⟩,⟨t,C⟩,al⟩,c,Z,v,w,o⟩,x⟩:=p
  obtain⟨j,S⟩:=hp
  simp only at j S
  have hrd:bX (bY recs) k 0 24 true=some (.agg [a8 k1,aI u,a8 G,a8 f,au d,a8 e,aI m,a8 O,au N,a8 K,aI J,aI D,a8 z,au q,a8 n,aI y,a8 t,au C,x,aI c,aI Z,a8 v,au w,aB o]):=by simp[bY,L,cH.val]
  have I:Bh ⟨h1,h2,h3⟩ sr (⟨k1,u,(⟨G,⟨f,d,e⟩,m,⟨⟨⟨O,N,K⟩,J⟩,D⟩,⟨⟨z,q,n⟩,y⟩,⟨t,C⟩,al⟩:aK),c,Z,v,w,o⟩,x)=(decide (k1=2)&&(decide ((⟨f,d,e⟩:sj)=⟨h1,h2,h3⟩)&&decide (m=sr))):=rfl
  have F:decide ((⟨f,d,e⟩:sj)=⟨h1,h2,h3⟩)=(decide (f=h1)&&decide (d=h2)&&decide (e=h3)):=by simp[and_assoc,zE]
  rw[I,F]at b a
  have lr:(H.get r).isSome=true:=by rw[T];rfl
  have l1:(H.get q1).isSome=true:=by rw[hq1];rfl
  have l2:(H.get q2).isSome=true:=by rw[hq2];rfl
  have hRl:(bY recs).length=recs.length:=ew recs
  clear hs P W L hok hr I F
  generalize bY recs=er at *
  generalize recs.length=nr at *
  simp only at a
  by_cases V:k1=2
  ·subst V
   cases U:(decide (f=h1)&&decide (d=h2)&&decide (e=h3)) with
   | false=>
    have M:=b (by rw[U];simp)
    clear b a
    refine kC _ _ _ _ _ _ _ _ λg=>?_
    simp[af,ah,ad,ae,aa, *,iW,j.r,fJ,bU]
    all_goals exact M _
   | true=>
    by_cases E:m=sr
    ·have hy:=a (by rw[U];simp[E])
     subst E
     clear b a
     refine kC _ _ _ _ _ _ _ _ λg=>?_
     simp[af,ah,ad,ae,aa, *,iW,j.r,fJ,bU]
     all_goals exact hy _
    ·have M:=b (by rw[U];simp[E])
     clear b a
     refine kC _ _ _ _ _ _ _ _ λg=>?_
     simp[af,ah,ad,ae,aa, *,iW,j.r,fJ,bU]
     all_goals exact M _
  ·have M:=b (by simp[V])
   clear b a
   refine kC _ _ _ _ _ _ _ _ λg=>?_
   simp[af,ah,ad,ae,aa, *,iW,j.r,fJ,bU]
   all_goals exact M _
end
section
variable{xu xq:AV}{us:List Clear}{qs:List ax}{gr:Int}(hu:Sl 3 (bZ us) xu)(hq:Sl 5 (bS qs) xq)(hul:us.length<1000000)(hql:qs.length<1000000){l:List (cH × AV)}{x1:AV}(hx:Sl 24 (bY l) x1)(hall : ∀p∈l,z6 p)
include hu hq hul hql hx hall
theorem M7(dep:Nat){H:ai}(v:Fr H)(a:Int){fd:FuncId}(w:(env.mode fd == 2)=true){caps:List AV}{R:fZ->AV->ai->Prop}
 (k:a=0 ->∀b c rb rs ru m xr,nO us qs gr l=some b->bF H c->iM c rb rs ru m xr us qs gr b->Own 24 (bY (l.map Ix)) c xr->(∀r,xr.at?=some r->r.t=62)->pd b ->∃z e o,cg env (dep+1) (.fn fd) ([]++[.ptr rb 0 0]++caps) c=some (.tup [z,e],o)/\R b (.tup [z,e]) o) :
 ∃y H',cg env dep (.fn 69) [.agg [xu,xq,aI gr],x1,aI a,.fn (.func fd) [] caps] H=some (y,H')/\mF (nO us qs gr l) a (aI 0) R y H':=by
 have n:bN env Tryz.f69 (dep+1) [.code oN] (rL 0 [.agg [xu,xq,aI gr],x1,aI a,.fn (.func fd) [] caps]) H λy H'=>mF (nO us qs gr l) a (aI 0) R y H':=by
  have d : ∀b1:bz,bF H ((⟨dep+1,4,H.gen (dep+1) 4,0⟩,some b1) :: H):=λb1=>bF.cons v _ _ _
  obtain⟨y,c,u,i⟩:=Ra (gr:=gr) hu hq hul hql hx hall (dep+1) (d ⟨3,[.agg [xu,xq,aI gr]],false,false⟩).fr
  refine oF _ _ _ _ _ _ _ λg=>?_
  unfold mF
  simp[af,ah,ad,ae,aa, *,jH,hx.r,hu.r,hq.r]
  refine tB (by kernel_rfl) u ?_
  cases j:nO us qs gr l with
  | none=>
   rw[j]at i
   obtain⟨rfl,x⟩:=i
   simp
  | some b=>
   rw[j]at i
   obtain⟨rb,rs,ru,rk,m,xr,rfl,h,hok⟩:=i
   by_cases q:a=0
   ·subst q
    obtain⟨z,e,o,h1,h2⟩:=k rfl b c rb rs ru m xr j ((d _).trans h.g) h.bk h.row (λr e=>(h.t62 r e).1) hok
    simp
    refine tB w h1 ?_
    simp
    exact h2
   ·simp[q]
 obtain⟨y,H',h1,h2⟩:=lB (f:=69) (by kernel_rfl) (by kernel_rfl) (by kernel_rfl) (by kernel_rfl) (by kernel_rfl) n
 exact⟨y,H',h1,h2⟩
theorem M6(dep:Nat){H:ai}(J:Fr H)(n:Int){fd:FuncId}(O:(env.mode fd == 2)=true){caps:List AV}{f:fZ->ax}
 (A:n=0 ->∀b k rb rs ru D xr,nO us qs gr l=some b->bF H k->iM k rb rs ru D xr us qs gr b->pd b ->∃v,cg env (dep+1) (.fn fd) ([]++[.ptr rb 0 0]++caps) k=some (.tup [.agg (f b).enc,aI 0],v)/\bF k v) :
 ∃y H',cg env dep (.fn 97) [.agg [xu,xq,aI gr],x1,aI n,.fn (.func fd) [] caps] H=some (y,H')/\mF (nO us qs gr l) n (.agg [a8 0,au 0,aI 0,aI 0,aI 0]) (λb y _=>y = .tup [.agg (f b).enc,aI 0]) y H'/\bF H H':=by
 have E:bN env Tryz.f97 (dep+1) [.code oM] (rL 0 [.agg [xu,xq,aI gr],x1,aI n,.fn (.func fd) [] caps]) H λy H'=>mF (nO us qs gr l) n (.agg [a8 0,au 0,aI 0,aI 0,aI 0]) (λb y _=>y = .tup [.agg (f b).enc,aI 0]) y H'/\bF H H':=by
  have j : ∀b1 b2:bz,bF H ((⟨dep+1,8,H.gen (dep+1) 8,0⟩,some b2) :: (⟨dep+1,4,H.gen (dep+1) 4,0⟩,some b1) :: H):=λb1 b2=>⟨by simp(maxDischargeDepth:=12) [ai.get_put,aq,aj,Fr.nil,aw,af,ah,ad,ae,ao,ak,aa, *],λq c hq=>by
   have F:(H.get q).isSome=true:=by rw[hq];rfl
   simp[af J F,hq]⟩
  obtain⟨y,k,M,w⟩:=Ra (gr:=gr) hu hq hul hql hx hall (dep+1) (j ⟨3,[.agg [xu,xq,aI gr]],false,false⟩ ⟨5,[.agg [a8 0,au 0,aI 0,aI 0,aI 0]],false,false⟩).fr
  have a : ∀(u:ai)(c:bz),bF H u->u.get ⟨dep+1,8,H.gen (dep+1) 8,0⟩=some c ->∀K,bF H (u.put ⟨dep+1,8,H.gen (dep+1) 8,0⟩ (some K)):=by
   intro u c t L K
   refine⟨t.fr.put _ (by rw[L];rfl),λq d hq=>?_⟩
   have F:(H.get q).isSome=true:=by rw[hq];rfl
   rw[ai.get_put,if_neg (λe=>pZ J F _ _ _ e.symm)]
   exact t.old q d hq
  refine oE _ _ _ _ _ _ _ λg=>?_
  unfold mF
  simp[af,ah,ad,ae,aa, *,jG,hx.r,hu.r,hq.r]
  refine tB (by kernel_rfl) M ?_
  cases x:nO us qs gr l with
  | none=>
   rw[x]at w
   obtain⟨rfl,m⟩:=w
   have i:=m.old ⟨dep+1,8,H.gen (dep+1) 8,0⟩ _ (by simp;rfl)
   have G:=m.fr
   have h:=a k _ ((j _ _).trans m) i
   clear hx hall a
   simp[i,h]
  | some b=>
   rw[x]at w
   obtain⟨rb,rs,ru,rk,D,xr,rfl,z,hok⟩:=w
   have m:=z.g
   have i:=m.old ⟨dep+1,8,H.gen (dep+1) 8,0⟩ _ (by simp;rfl)
   have G:=m.fr
   by_cases I:n=0
   ·subst I
    obtain⟨v,h1,h2⟩:=A rfl b k rb rs ru D xr x ((j _ _).trans z.g) z.bk hok
    have o:=h2.old _ _ i
    have N:=h2.fr
    have h:=a v _ (((j _ _).trans m).trans h2) o
    clear a
    simp
    refine tB O h1 ?_
    cases C:f b with
    | mk f1 f2 f3 f4 f5=>
     simp[o,C,ax.enc,h]
   ·have h:=a k _ ((j _ _).trans m) i
    clear a
    simp[I,i,h]
 obtain⟨y,H',h1,h2⟩:=lB (f:=97) (by kernel_rfl) (by kernel_rfl) (by kernel_rfl) (by kernel_rfl) (by kernel_rfl) E
 exact⟨y,H',h1,h2⟩
end
end Go.Proofs.YtmkmimgokagimaaGreat
namespace Go.Proofs.YtmkmimgokagimaaGreat
open Go.Ab
theorem zl{a b:UInt32}:a &&& ~~~b=0 ↔ ∀i,a.toBitVec.getLsbD i=true->b.toBitVec.getLsbD i=true:=by
 rw[<-UInt32.toBitVec_inj]
 constructor
 ·intro h i c
  have:=congrArg (λz=>BitVec.getLsbD z i) h
  simp only[NC,NB,Jw,Jv,UInt32.toBitVec_ofNat]at this
  have d:i<32:=by
   rcases fm i 32 with h | h
   ·exact h
   ·rw[BitVec.getLsbD_of_ge _ _ h]at c;cases c
  simp[c,d]at this
  exact this
 ·intro h
  apply BitVec.eq_of_getLsbD_eq
  intro i c
  simp only[NC,NB,Jw,Jv]
  have:=h i
  cases e:a.toBitVec.getLsbD i with
  | false=>simp
  | true=>simp[this e]
theorem GU{a b c:jy}(d:tU a b=true)(e:tU b c=true):tU a c=true:=by
 simp only[tU,bh,decide_eq_true_eq]at d e ⊢
 exact⟨UInt8.le_trans d.1 e.1,zl.2 λi f=>zl.1 e.2 i (zl.1 d.2 i f)⟩
def HY(v:jy)(o:aK):Bool:=tU (Ku o) v
theorem Gm(ents:List (bV × AV))(i j:bV):fC (jq i (aB true) ents) j=(decide (j=i)||fC ents j):=by
 unfold fC
 by_cases e:j=i
 ·subst e;rw[ot];simp
 ·rw[mL e];simp[e]
theorem yR : ∀(a:List bV)(ents:List (bV × AV)) (j:bV),fC (tX ents a) j=(decide (j∈a)||fC ents j)
 | [],ents,j=>by simp
 | i :: a,ents,j=>by
  rw[EO,yR a,Gm]
  by_cases e:j=i<;>simp[e]
theorem W3{s:vE}{i:bV}(h:i∈cB s):Np i=⟨s.f.h.lv,s.f.h.cats⟩:=by
 unfold cB at h
 obtain⟨k,_,rfl⟩:=tY.1 h
 rfl
theorem W0{o:aK}(h:m0 o=true)(k:o.kind=1):o.s.f.h=o.h:=by
 unfold m0 BV at h
 rw[if_pos k]at h
 simp only[bh,GX]at h
 exact(QO _ _).1 h.2.2.2.2.2.2.1
theorem DW{v w:jy}(b:tU w v=true)(i:bV) : ∀(l:List aK)(out:List jy),vf out (l.filter (HY v)) i w=vf out l i w
 | [],out=>rfl
 | o :: l,out=>by
  rw[FJ]
  by_cases e:HY v o=true
  ·rw[if_pos e]
   exact DW b i l _
  ·rw[if_neg e,DW b i l out]
   have a:jZ o i w=false:=by
    cases a:jZ o i w with
    | false=>rfl
    | true=>
     unfold jZ at a
     simp only[bh]at a
     exact absurd (GU a.2.2 b) e
   show vf out l i w=vf (if jZ o i w then sn out o.to else out) l i w
   rw[a];rfl
theorem I8{v:jy}{o:aK}(a:HY v o=true)(l:List aK):kI (l.filter (HY v)) o=kI l o:=by
 unfold kI pw
 simp only[DW a]
structure No (v:jy) (ops:List (aK × AV)) (ents:List (bV × AV)) (ops':List (aK × AV)) (ents':List (bV × AV)):Prop where
 opsE:opsOf ops'=(opsOf ops).filter (HY v)
 there : ∀i,tU (Np i) v=true->fC ents' i=fC ents i
 right:lJ [] (opsOf ops)=true
 right':lJ [] (opsOf ops')=true
 len:ents.length<=64 * ops.length
 len':ents'.length<=64 * ops'.length
theorem No.lens{v:jy}{ops:List (aK × AV)}{ents:List (bV × AV)}{ops':List (aK × AV)}{ents':List (bV × AV)}(h:No v ops ents ops' ents'):ops'.length<=ops.length:=by
 have e:=congrArg List.length h.opsE
 have a:=NJ (HY v) (opsOf ops)
 simp only[opsOf,so]at e a
 omega
theorem ID{v:jy}{ents ents':List (bV × AV)}(b : ∀i,tU (Np i) v=true->fC ents' i=fC ents i){o:aK}(a:HY v o=true)(i:bV):u6 ents' o i=u6 ents o i:=by
 unfold u6
 cases e:tU (Np i) (Ku o) with
 | false=>simp
 | true=>rw[b i (GU e a)]
theorem EE{v:jy}{ents ents':List (bV × AV)}(b : ∀i,tU (Np i) v=true->fC ents' i=fC ents i){o:aK}(a:HY v o=true):rD ents' o=rD ents o:=by
 unfold rD
 simp only[ID b a]
theorem any_congr{α:Type}{p q:α->Bool} : ∀ {l:List α},(∀x∈l,p x=q x)->l.any p=l.any q
 | [],_=>rfl
 | x :: l,h=>by
  rw[FD,FD,h x jn,any_congr λy a=>h y (il _ a)]
theorem zi{l:List aK}(h:lJ [] l=true)(a:l.length<=2048):qa l=0:=by
 unfold qa
 rw[if_neg (by omega),if_pos h]
section
variable{v:jy}{ops:List (aK × AV)}{ents:List (bV × AV)}{ops':List (aK × AV)}{ents':List (bV × AV)}(h:No v ops ents ops' ents')(hn:ops.length<=100)
include h hn
theorem Vh{o:aK}(a:HY v o=true)(c:m0 o=true):vm ops' ents' o=vm ops ents o:=by
 have j:=h.lens
 have f:=h.len
 have g:=h.len'
 have k:=gz (lz c)
 have e:uf ops' ents' o=uf ops ents o:=by
  unfold uf
  by_cases k1:o.kind=1
  ·rw[if_pos k1,if_pos k1]
   unfold fG
   have b:(cB o.s).any (fC ents')=(cB o.s).any (fC ents):=any_congr λi d=>by
    refine h.there i ?_
    rw[W3 d,W0 c k1]
    exact a
   rw[ID h.there a,b,if_neg (show ¬8192<(ents'.length:Int)+o.s.many by omega),if_neg (show ¬8192<(ents.length:Int)+o.s.many by omega)]
  ·rw[if_neg k1,if_neg k1]
   by_cases k2:o.kind=2
   ·rw[if_pos k2,if_pos k2]
    unfold yT
    rw[EE h.there a]
   ·rw[if_neg k2,if_neg k2]
    unfold yU
    have c1:qa (opsOf ops)=0:=zi h.right (by simp[opsOf];omega)
    have c2:qa (opsOf ops')=0:=zi h.right' (by simp[opsOf];omega)
    rw[EE h.there a,c1,c2,h.opsE,I8 a]
 unfold vm
 rw[e,if_neg (by omega),if_neg (by omega)]
theorem Qe{o:aK}(a:vm ops ents o=0)(c:m0 o=true):kI (opsOf ops) o=true:=by
 unfold vm at a
 rw[if_neg (by omega)]at a
 unfold uf at a
 by_cases k3:o.kind=3
 ·rw[if_neg (by rw[k3];decide),if_neg (by rw[k3];decide)]at a
  unfold yU at a
  split at a
  ·cases a
  ·split at a
   ·rename_i b;exact b.2
   ·cases a
 ·unfold kI
  rw[if_neg k3]
end
theorem Aq{l:List aK}{o:aK}(h:lJ [] l=true)(b:m0 o=true)(a:kI l o=true):lJ [] (l++[o])=true:=by
 rw[Ol,h,nx]
 show(m0 o&&kI ([]++l) o&&true)=true
 rw[vS,b,a];rfl
theorem p9(l:List (aK × AV))(p:aK × AV):opsOf (l++[p])=opsOf l++[p.1]:=by simp[opsOf]
def yb(ents:List (bV × AV))(o:aK):List (bV × AV):=if o.kind=1 then tX ents (cB o.s) else ents
theorem Jc{ents:List (bV × AV)}{o:aK}(a:m0 o=true):(yb ents o).length<=ents.length+64:=by
 have c:=gz (lz a)
 unfold yb
 split
 ·have:=B4 (cB o.s) ents
  have b:(cB o.s).length=o.s.many.toNat:=by simp[cB]
  omega
 ·omega
section
variable{v:jy}{ops:List (aK × AV)}{ents:List (bV × AV)}{ops':List (aK × AV)}{ents':List (bV × AV)}(h:No v ops ents ops' ents')(hn:ops.length<=100)
include h hn
theorem No.low{p p':aK × AV}(e:p'.1=p.1)(d:HY v p.1=true)(a:m0 p.1=true)(c:vm ops ents p.1=0):m0 p'.1=true/\vm ops' ents' p'.1=0/\No v (ops++[p]) (yb ents p.1) (ops'++[p']) (yb ents' p'.1):=by
 rw[e]
 have b:vm ops' ents' p.1=0:=by rw[Vh h hn d a];exact c
 refine⟨a,b,?_,λi f=>?_,?_,?_,?_,?_⟩
 ·rw[p9,p9,h.opsE,List.filter_append,e]
  simp[d]
 ·unfold yb
  split
  ·rw[yR,yR,h.there i f]
  ·exact h.there i f
 ·rw[p9];exact Aq h.right a (Qe h hn c a)
 ·rw[p9,e]
  refine Aq h.right' a ?_
  rw[h.opsE,I8 d]
  exact Qe h hn c a
 ·have:=Jc (ents:=ents) a
  have:=h.len
  simp;omega
 ·have:=Jc (ents:=ents') a
  have:=h.len'
  simp;omega
end
theorem No.nil(v:jy):No v [] [] [] []:=⟨rfl,λ_ _=>rfl,rfl,rfl,dc _,dc _⟩
theorem Hc{p:aK × AV} : ∀ {s ops:List (aK × AV)} {ents:List (bV × AV)},sF ops ents (s++[p])=(sF ops ents s).bind λq=>if m0 p.1=true/\vm q.1 q.2 p.1=0 then some (q.1++[p],yb q.2 p.1) else none
 | [],ops,ents=>by
  show(if m0 p.1=true/\vm ops ents p.1=0 then sF (ops++[p]) (yb ents p.1) [] else none)=_
  rfl
 | q :: s,ops,ents=>by
  simp only[Nt,sF]
  split
  ·exact Hc
  ·rfl
end Go.Proofs.YtmkmimgokagimaaGreat
namespace Go.Proofs.YtmkmimgokagimaaGreat
open Go.Ab
attribute [local simp] aW aJ aH aV aU cr ld bf aQ aT cz cw bI bg aC bH gh
def Hg(us:List Clear)(qs:List ax)(gr:Int)(l:List (cH × AV))(h:sj)(a:Int):AV:=match nO us qs gr l with
 | none => .tup [aI 0,aI 8]
 | some _=>if gU h=true then oA h a (l.map Ix) else .tup [aI 0,aI 8]
theorem He(h:sj)(c:Int)(l:List (cH × AV)) : ∃a b,oA h c l = .tup [aI a,aI b]:=by
 unfold oA
 split
 ·exact⟨_,_,rfl⟩
 ·exact⟨_,_,rfl⟩
def K5(b:fZ)(a:UInt8)(c:UInt32):ax:=⟨a,c,(tz (bT ⟨a,c⟩ b.used)).opens,(tz (bT ⟨a,c⟩ b.used)).ops,(tz (bT ⟨a,c⟩ b.used)).cells⟩
def Ge(us:List Clear)(qs:List ax)(gr:Int)(l:List (cH × AV))(a:UInt8)(c:UInt32):AV:=match nO us qs gr l with
 | none => .tup [.agg [a8 0,au 0,aI 0,aI 0,aI 0],aI 8]
 | some b=>if a<=15 then .tup [.agg (K5 b a c).enc,aI 0] else .tup [.agg [a8 0,au 0,aI 0,aI 0,aI 0],aI 8]
section
variable{xu xq:AV}{us:List Clear}{qs:List ax}{gr:Int}(hu:Sl 3 (bZ us) xu)(hq:Sl 5 (bS qs) xq)(hul:us.length<1000000)(hql:qs.length<1000000){l:List (cH × AV)}{x1:AV}(hx:Sl 24 (bY l) x1)(hall : ∀p∈l,z6 p)
include hu hq hul hql hx hall
theorem R6(w:l.length<=2048)(dep:Nat){H:ai}(q:Fr H){rb rs ru:Ref}{t m:AV}{b:fZ}(i:iM H rb rs ru t m us qs gr b)(j:Own 24 (bY (l.map Ix)) H m){q1 q2:Ref}(d:UInt8)(h:UInt32)(e:UInt8)(f:Int)
 (n:H.get q1=some ⟨3,[.agg [a8 d,au h,a8 e]],false,false⟩) (z:H.get q2=some ⟨1,[aI f],false,false⟩) :
 ∃H',cg env dep (.fn 95) [.ptr rb 0 0,.ptr q1 0 0,.ptr q2 0 0] H=some (oA ⟨d,h,e⟩ f (l.map Ix),H')/\bF H H':=by
 refine eR (fn:=Tryz.f95) (c:=Eh) (by kernel_rfl) (by kernel_rfl) (by kernel_rfl) (by kernel_rfl) (by kernel_rfl) ?_
 refine DG _ _ _ _ _ _ λg=>?_
 have a:=R5 (recs:=l.map Ix) (by simpa using w) (λp hp=>by
  obtain⟨C,A,rfl⟩:=tY.1 hp
  have:=hall C A
  exact⟨PE this.1,this.2⟩) (dep:=dep) d h e f (Q:=λy H'=>y=oA ⟨d,h,e⟩ f (l.map Ix)/\bF H H') (l.map Ix) 0 H rfl (by omega) q j n z (λH' o=>⟨rfl,o⟩)
 obtain⟨x,u,E,F,G,D,v,_⟩:=i.box
 have c9:=i.one
 have k:=Own.len j
 rw[ew,so]at k
 rw[so]at a
 clear hx hall i j
 generalize oA ⟨d,h,e⟩ f (l.map Ix)=cc at *
 simp[af,ah,ad,ae,aa, *,yp]
 exact a
theorem QD(dep:Nat){H:ai}(t:Fr H){rb rs ru:Ref}{j x:AV}{b:fZ}(a:iM H rb rs ru j x us qs gr b)(d:pd b){q1:Ref}(k:UInt8)(m:UInt32)(o:H.get q1=some ⟨2,[.agg [a8 k,au m]],false,false⟩) :
 ∃H',cg env dep (.fn 98) [.ptr rb 0 0,.ptr q1 0 0] H=some (.tup [.agg (K5 b k m).enc,aI 0],H')/\bF H H':=by
 refine eR (fn:=Tryz.f98) (c:=Ee) (by kernel_rfl) (by kernel_rfl) (by kernel_rfl) (by kernel_rfl) (by kernel_rfl) ?_
 refine DD _ _ _ _ _ λg=>?_
 obtain⟨y,v,M,N,P,J,n,C,z,i,f⟩:=a.box
 have A:=a.use
 have c4:=i.s.cells
 have c5:=f.s.cells
 have c8:j.cells=[j]/\j.one=true:=by obtain⟨_,w⟩:=nm a.eO;exact w.cells
 have c9:=a.one
 have G:(H.get rb).isSome=true:=by rw[n];rfl
 have O:(H.get q1).isSome=true:=by rw[o];rfl
 have K:(H.get ru).isSome=true:=by rw[A];rfl
 have E:=λ(H':ai)(h:H'.get ru=some (bj (cF xV b.used)))=>DK (g:=H'.get) d.used h ⟨k,m⟩
 have e : ∀b1 b2:bz,bF H ((⟨dep+1,5,H.gen (dep+1) 5,0⟩,some b2) :: (⟨dep+1,3,H.gen (dep+1) 3,0⟩,some b1) :: H):=λb1 b2=>⟨by simp(maxDischargeDepth:=12) [ai.get_put,aq,aj,Fr.nil,aw,af,ah,ad,ae,ao,ak,aa, *],λq c hq=>by
  have D:(H.get q).isSome=true:=by rw[hq];rfl
  simp[af t D,hq]⟩
 unfold K5
 generalize tz (bT ⟨k,m⟩ b.used)=u at *
 obtain⟨L,F,I⟩:=u
 clear hx hall a i f d
 simp[af,ah,ad,ae,aa, *,ym,zw.av,ax.enc]
 try exact e _ _
theorem Zn(a:UInt8)(d:UInt32)(c:UInt8)(i:Int):aF env 29 [.agg [xu,xq,aI gr],x1,.agg [a8 a,au d,a8 c],aI i]=some (Hg us qs gr l ⟨a,d,c⟩ i):=by
 refine aG rfl (by kernel_rfl) (Ga _ _ _ _ _ _ λg=>?_)
 have k:Fr [(⟨0,7,0,0⟩,some ⟨1,[aI i],false,false⟩),(⟨0,6,0,0⟩,some ⟨3,[.agg [a8 a,au d,a8 c]],false,false⟩),(⟨0,4,0,0⟩,some ⟨3,[.agg [xu,xq,aI gr]],false,false⟩)]:=by simp(maxDischargeDepth:=12) [ai.get_put,aq,aj,Fr.nil,aw,af,ah,ad,ae,ao,ak,aa, *]
 have M:=Bu a d c
 obtain⟨y,E,v,f⟩:=M7 (gr:=gr) hu hq hul hql hx hall 0 k (bad (gU ⟨a,d,c⟩)) (fd:=95) (by kernel_rfl) (caps:=[.ptr ⟨0,6,0,0⟩ 0 0,.ptr ⟨0,7,0,0⟩ 0 0])
  (R:=λb y H=>y=oA ⟨a,d,c⟩ i (l.map Ix)) (λG b E rb rs ru I J j o x C D A=>by
   have m:l.length<=2048:=by
    unfold nO at j
    split at j
    ·rename_i h;exact h.2
    ·cases j
   obtain⟨F,u,N⟩:=R6 (gr:=gr) hu hq hul hql hx hall m 1 o.fr x C (q1:=⟨0,6,0,0⟩) (q2:=⟨0,7,0,0⟩) a d c i (o.old ⟨0,6,0,0⟩ _ (by simp)) (o.old ⟨0,7,0,0⟩ _ (by simp))
   obtain⟨L,K,w⟩:=He ⟨a,d,c⟩ i (l.map Ix)
   rw[w]at u ⊢
   exact⟨_,_,F,u,rfl⟩)
 have t:y=Hg us qs gr l ⟨a,d,c⟩ i:=by
  unfold mF at f
  unfold Hg
  cases j:nO us qs gr l with
  | none=>rw[j]at f;exact f
  | some b=>
   rw[j]at f
   cases q:gU ⟨a,d,c⟩ with
   | true=>simp only[q,bad,if_true]at f ⊢;exact f
   | false=>simp[q,bad]at f ⊢;exact f
 have n : ∃z e,Hg us qs gr l ⟨a,d,c⟩ i = .tup [aI z,aI e]:=by
  unfold Hg
  split
  ·exact⟨_,_,rfl⟩
  ·split
   ·exact He _ _ _
   ·exact⟨_,_,rfl⟩
 obtain⟨z,e,n⟩:=n
 rw[n]at t ⊢
 subst t
 clear f n hx hall k
 simp[af,ah,ad,ae,aa, *,AO,hu.r,hq.r]
 refine tB (by kernel_rfl) v ?_
 simp
theorem Zi(a:UInt8)(d:UInt32):aF env 31 [.agg [xu,xq,aI gr],x1,.agg [a8 a,au d]]=some (Ge us qs gr l a d):=by
 refine aG rfl (by kernel_rfl) (F8 _ _ _ _ _ λg=>?_)
 have i:Fr [(⟨0,6,0,0⟩,some ⟨5,[.agg [a8 0,au 0,aI 0,aI 0,aI 0]],false,false⟩),(⟨0,5,0,0⟩,some ⟨2,[.agg [a8 a,au d]],false,false⟩),(⟨0,3,0,0⟩,some ⟨3,[.agg [xu,xq,aI gr]],false,false⟩)]:=by simp(maxDischargeDepth:=12) [ai.get_put,aq,aj,Fr.nil,aw,af,ah,ad,ae,ao,ak,aa, *]
 have D:=TA a d
 obtain⟨y,w,u,c,h⟩:=M6 (gr:=gr) hu hq hul hql hx hall 0 i (bad (decide (a<=15))) (fd:=98) (by kernel_rfl) (caps:=[.ptr ⟨0,5,0,0⟩ 0 0])
  (f:=λb=>K5 b a d) (λz b w rb rs ru A C m h v n=>QD (gr:=gr) hu hq hul hql hx hall 1 h.fr v n (q1:=⟨0,5,0,0⟩) a d (h.old ⟨0,5,0,0⟩ _ (by simp)))
 have t:y=Ge us qs gr l a d:=by
  unfold mF at c
  unfold Ge
  cases m:nO us qs gr l with
  | none=>rw[m]at c;exact c
  | some b=>
   rw[m]at c
   dsimp only at c ⊢
   by_cases k:a<=15
   ·simp only[k,bad,decide_true,if_true]at c ⊢;exact c
   ·simp[k,bad]at c
    rw[if_neg k]
    exact c
 have j : ∃q e,Ge us qs gr l a d = .tup [.agg (ax.enc q),aI e]:=by
  unfold Ge
  split
  ·exact⟨⟨0,0,0,0,0⟩,8,rfl⟩
  ·split
   ·exact⟨_,_,rfl⟩
   ·exact⟨⟨0,0,0,0,0⟩,8,rfl⟩
 obtain⟨q,e,j⟩:=j
 rw[j]at t ⊢
 subst t
 have o:=h.old ⟨0,6,0,0⟩ _ (by simp;rfl)
 have x:=h.fr
 obtain⟨f1,f2,f3,f4,f5⟩:=q
 clear c j hx hall i h
 simp[af,ah,ad,ae,aa, *,AM,hu.r,hq.r]
 refine tB (by kernel_rfl) u ?_
 simp[ax.enc,o]
end
end Go.Proofs.YtmkmimgokagimaaGreat
namespace Go.Proofs.YtmkmimgokagimaaGreat
open Go.Ab
def rC(h:sj)(l:List (cH × AV)):Int:=l.foldl (λs p=>if p.1.kind=2/\p.1.op.h=h then p.1.op.serial else s) 0
theorem I0(h:sj)(l:List (cH × AV))(p:cH × AV):rC h (l++[p])=if p.1.kind=2/\p.1.op.h=h then p.1.op.serial else rC h l:=by
 simp[rC]
structure Ser (l:List (cH × AV)) (b:fZ):Prop where
 ser : ∀h:sj,(qR (bT h b.ses)).s=rC h l/\((qR (bT h b.ses)).o=false->rC h l=0)
 up : ∀h:sj,0<=rC h l/\rC h l<16777216 /\∀p∈l,p.1.kind=2->p.1.op.h=h->p.1.op.serial<=rC h l
section
variable{us0:List Clear}{qs:List ax}{gr0:Int}{l:List (cH × AV)}{b:fZ}{p:cH × AV}(h:Ser l b)(his:cT p.1=true)
include h his
theorem Ser.two(k2:p.1.kind=2)(w:C3 us0 qs gr0 b p.1=true):Ser (l++[p]) (vL b p.1.op p.1.code (u4 p.2))/\p.1.op.serial=rC p.1.op.h l+1:=by
 simp only[C3,bh,decide_eq_true_eq]at w
 obtain⟨ho,_,g,x,m⟩:=w
 have d:m0 p.1.op=true:=by
  unfold cT at his
  rw[if_neg (by rw[k2];decide),if_pos k2]at his
  simp only[bh]at his
  exact his.2.1
 have v:1<=p.1.op.serial/\p.1.op.serial<16777216:=by
  simp only[m0,bh,decide_eq_true_eq]at d
  exact⟨d.2.1,d.2.2.1⟩
 have k:=(h.ser p.1.op.h).1
 have n:=h.up p.1.op.h
 have t:p.1.op.serial=rC p.1.op.h l+1:=by
  rw[g]
  show IntKind.i64.wrap ((qR (bT p.1.op.h b.ses)).s+1)=_
  rw[k]
  exact IntWalk.i64_in _ (by omega)
 refine⟨?_,t⟩
 have f : ∀a:sj,rC a (l++[p])=if a=p.1.op.h then p.1.op.serial else rC a l:=λa=>by
  rw[I0]
  by_cases e:a=p.1.op.h
  ·subst e;rw[if_pos ⟨k2,rfl⟩,if_pos rfl]
  ·rw[if_neg (λj=>e j.2.symm),if_neg e]
 refine⟨λa=>?_,λa=>?_⟩
 ·rw[f]
  show(qR (bT a (jq p.1.op.h (yv.av { nD b p.1.op with s:=IntKind.i64.wrap ((nD b p.1.op).s+1)}) b.ses))).s=_/\((qR (bT a (jq p.1.op.h (yv.av { nD b p.1.op with s:=IntKind.i64.wrap ((nD b p.1.op).s+1)}) b.ses))).o=false->_)
  by_cases e:a=p.1.op.h
  ·subst e
   rw[ot,Cz,if_pos rfl]
   refine⟨g.symm,λj=>?_⟩
   simp only at j
   rw[j]at ho
   cases ho
  ·rw[mL e,if_neg e]
   exact h.ser a
 ·rw[f]
  by_cases e:a=p.1.op.h
  ·subst e
   rw[if_pos rfl]
   refine⟨by omega,by omega,λq c u i=>?_⟩
   rcases nR.1 c with c | c
   ·have:=n.2.2 q c u i;omega
   ·rw[uP]at c;subst c;exact Jk _
  ·rw[if_neg e]
   refine⟨(h.up a).1,(h.up a).2.1,λq c u i=>?_⟩
   rcases nR.1 c with c | c
   ·exact(h.up a).2.2 q c u i
   ·rw[uP]at c;subst c;exact absurd i.symm e
theorem Ser.step(f:tL us0 qs gr0 b p.1=true):Ser (l++[p]) (Pd b p):=by
 unfold tL at f
 unfold Pd
 have c:p.1.kind≠2->(∀a,rC a (l++[p])=rC a l) /\∀a:sj,0<=rC a l/\rC a l<16777216 /\∀q∈l++[p],q.1.kind=2->q.1.op.h=a->q.1.op.serial<=rC a l:=by
  intro k2
  refine⟨λa=>by rw[I0,if_neg (λm=>k2 m.1)],λa=>⟨(h.up a).1,(h.up a).2.1,λq i j k=>?_⟩⟩
  rcases nR.1 i with i | i
  ·exact(h.up a).2.2 q i j k
  ·rw[uP]at i;subst i;exact absurd j k2
 by_cases k1:p.1.kind=1
 ·rw[if_pos k1]at f ⊢
  obtain⟨d,g⟩:=c (by rw[k1];decide)
  simp only[EI,bh,dV]at f
  refine⟨λa=>?_,λa=>by rw[d];exact g a⟩
  rw[d]
  show(qR (bT a (jq p.1.op.h (yv.av ⟨true,p.1.user,0⟩) b.ses))).s=rC a l/\((qR (bT a (jq p.1.op.h (yv.av ⟨true,p.1.user,0⟩) b.ses))).o=false->rC a l=0)
  by_cases e:a=p.1.op.h
  ·subst e
   rw[ot,Cz]
   exact⟨((h.ser p.1.op.h).2 f.1).symm,λh=>by cases h⟩
  ·rw[mL e]
   exact h.ser a
 ·rw[if_neg k1]at f ⊢
  by_cases k2:p.1.kind=2
  ·rw[if_pos k2]at f ⊢
   exact(h.two his k2 f).1
  ·rw[if_neg k2]
   obtain⟨d,g⟩:=c k2
   exact⟨λa=>by rw[d];exact h.ser a,λa=>by rw[d];exact g a⟩
end
section
variable{us0:List Clear}{qs:List ax}{gr0:Int}{l:List (cH × AV)}{b:fZ}(ho:nO us0 qs gr0 l=some b)
include ho
end
end Go.Proofs.YtmkmimgokagimaaGreat
