/-
  Labels: what the functions answer. No statement of a seat is proved here.
-/
import Derived.Test.YtmkmimgokagimaaGreatMLeVc8
set_option linter.unusedVariables false
set_option linter.unusedSimpArgs false
set_option linter.unusedSectionVars false
set_option linter.unnecessarySimpa false
set_option maxRecDepth 100000
namespace Go.Proofs.YtmkmimgokagimaaGreat
open Go.Ab
section
attribute [local simp] aG ay bQ gX
@[simp] theorem ad3(a:UInt8)(b:UInt32):ak env 76 [.agg [a8 a,ae b]]=some (aI (Au a)):=by
 refine an rfl (by kernel_rfl) (Bv _ _ _ λg=>?_)
 simp[ai, *,wJ]
 repeat' ((first | apply iV<;>intro h | apply fZ<;>intro h | apply ga<;>intro h | apply fX<;>intro h | apply fY<;>intro h)<;>(try simp only[decide_eq_true_eq,decide_eq_false_iff_not,dN,kG,aY,fv]at h)<;>(try simp[ai, *,Au]))
@[simp] theorem aj9(a:UInt8)(b:UInt32)(c:UInt8)(d:UInt32):ak env 47 [.agg [a8 a,ae b],.agg [a8 c,ae d]]=some (aB (WB a b c d)):=by
 refine an rfl (by kernel_rfl) (DM _ _ _ _ λg=>?_)
 simp[ai, *,AH]
 repeat' ((first | apply iV<;>intro h | apply fZ<;>intro h | apply ga<;>intro h | apply fX<;>intro h | apply fY<;>intro h)<;>(try simp only[decide_eq_true_eq,decide_eq_false_iff_not,dN,kG,aY,fv]at h)<;>(try simp[ai, *,WB]))
@[simp] theorem aiV(a:UInt8)(b:UInt32)(c:UInt8)(d:UInt32):ak env 169 [.agg [a8 a,ae b],.agg [a8 c,ae d]]=some (aB (JB a b c d)):=by
 refine an rfl (by kernel_rfl) (HZ _ _ _ _ λg=>?_)
 simp[ai, *,B1,mc,fw,bM]
 repeat' ((first | apply iV<;>intro h | apply fZ<;>intro h | apply ga<;>intro h | apply fX<;>intro h | apply fY<;>intro h)<;>(try simp only[decide_eq_true_eq,decide_eq_false_iff_not,dN,kG,aY,fv]at h)<;>(try simp[ai, *,JB,mc,fw,bM]))
@[simp] theorem Yf:ak env 185 []=some (.agg [a8 0,ae 0]):=by
 refine an rfl (by kernel_rfl) (Bu _ _ λg=>?_)
 simp[ai, *,wI,mc]
@[simp] theorem aj3(n m:Int):ak env 167 [aI n,aI m]=some (aB (decide (0<=n)&&decide (n<=m))):=by
 refine an rfl (by kernel_rfl) (HV _ _ _ _ λg=>?_)
 simp[ai, *,BX]
 repeat' ((first | apply iV<;>intro h | apply fZ<;>intro h | apply ga<;>intro h | apply fX<;>intro h | apply fY<;>intro h)<;>(try simp only[decide_eq_true_eq,decide_eq_false_iff_not,dN,kG,aY,fv]at h)<;>(try simp[ai, *]))
@[simp] theorem aj7(a:UInt8)(b:UInt32):ak env 78 [.agg [a8 a,ae b]]=some (aB (decide (a<=15))):=by
 refine an rfl (by kernel_rfl) (Ac _ _ _ λg=>?_)
 simp[ai, *,tn]
@[simp] theorem aiS(v:UInt8)(c:UInt32)(ok:Bool):ak env 168 [.agg [a8 v,ae c,aB ok]]=some (aB (o8 v c ok)):=by
 refine an rfl (by kernel_rfl) (Gz _ _ _ λg=>?_)
 simp[ai, *,A3,mc,fw,bM]
 repeat' ((first | apply iV<;>intro h | apply fZ<;>intro h | apply ga<;>intro h | apply fX<;>intro h | apply fY<;>intro h)<;>(try simp only[decide_eq_true_eq,decide_eq_false_iff_not,dN,kG,aY,fv]at h)<;>(try simp[ai, *,o8,mc,fw,bM]))
@[simp] theorem aaa(v:UInt8)(c:UInt32)(ok:Bool):ak env 178 [.agg [a8 v,ae c,aB ok]]=some (aB (o8 v c ok)):=by
 refine an rfl (by kernel_rfl) (vu _ _ _ λg=>?_)
 simp[ai, *,oA,mc,fw,bM]
 repeat' ((first | apply iV<;>intro h | apply fZ<;>intro h | apply ga<;>intro h | apply fX<;>intro h | apply fY<;>intro h)<;>(try simp only[decide_eq_true_eq,decide_eq_false_iff_not,dN,kG,aY,fv]at h)<;>(try simp[ai, *,o8,mc,fw,bM]))
end
section
attribute [local simp] aG ay bQ gX
def xC(b:Bool):List Bool->Nat->Int
 | [],_ => -1
 | x :: l,k=>if b=x then k else xC b l (k+1)
theorem YW(b:Bool) : ∀(l:List Bool)(k:Nat),(0<=xC b l k↔l.contains b=true):=by
 intro l
 induction l with
 | nil=>intro k;simp[xC]
 | cons x l a=>
  intro k
  unfold xC
  split
  ·rename_i e;subst e;simp
  ·rename_i e
   rw[a (k+1)]
   have:(b == x)=false:=by cases b<;>cases x<;>simp_all
   simp only[List.contains_cons,this,E1]
section
variable{x0:AV}{l:List Bool}(u:Sl 1 (ahC l) x0)(B:l.length<4611686018427387904)
include u B
theorem QY{b:Bool}{Q:AV->aa->Prop} : ∀(s:List Bool)(k:Nat)(i:Int)(H:aa),l.drop k=s->k<=l.length->i=k->(∀y H',y=aI (xC b s k)->Q y H') ->
 bF env Tryz.f227 0 fA [(8,aI i),(0,x0),(1,aB b),(7,aI l.length)] H Q:=by
 intro s
 induction s with
 | nil=>
  rintro k i H hs hk rfl h
  obtain rfl:=drop_nil hs hk
  refine mD _ _ _ _ _ _ λg=>?_
  simp[ai, *,je]
  exact h _ H rfl
 | cons a s f=>
  rintro k i H hs hk rfl h
  obtain⟨d,n,c,p⟩:=drop_cons hs
  refine mD _ _ _ _ _ _ λg=>?_
  simp[ai, *,je,u.idx,d,n,IntWalk.i64_in ((k:Int)+1) (by omega)]
  refine ac6 (λe=>?_) (λe=>?_)
  ·exact h _ _ (by simp[xC,e])
  ·simp[IntWalk.i64_in ((k:Int)+1) (by omega)]
   exact f (k+1) _ _ c (by omega) (by omega) (λy H' q=>h y H' (by simp[xC,e,q]))
@[simp] theorem Yg(b:Bool):ak env 227 [x0,aB b]=some (aI (xC b l 0)):=by
 refine an rfl (by kernel_rfl) (uY _ _ _ _ λg=>?_)
 simp[ai, *,nM,u.len]
 exact QY u B l 0 _ _ rfl (by omega) (by simp) (λy H' e=>by simp[e])
@[simp] theorem Qn(b:Bool):ak env 212 [x0,aB b]=some (aB (l.contains b)):=by
 refine an rfl (by kernel_rfl) (tu _ _ _ _ λg=>?_)
 have:=YW b l 0
 simp[ai, *,my,u.r,Yg u B,this]
@[simp] theorem Vd:ak env 166 [x0]=some (aB (l.all id)):=by
 refine an rfl (by kernel_rfl) (JP _ _ _ λg=>?_)
 have:(!l.contains false)=l.all id:=by
  clear u B
  induction l with
  | nil=>rfl
  | cons b l a=>cases b<;>simp_all
 simp[ai, *,CS,u.r,Qn u B,<-this]
end
@[simp] theorem aj5(a b c:Bool):ak env 166 [.cD 1 [aB a,aB b,aB c] (some 3)]=some (aB (a&&(b&&c))):=by
 have:=Vd (l:=[a,b,c]) (x0 := .cD 1 [aB a,aB b,aB c] (some 3)) (.inr ⟨_,rfl,by simp⟩) (by simp);simpa using this
@[simp] theorem aj4(a b c d e:Bool):ak env 166 [.cD 1 [aB a,aB b,aB c,aB d,aB e] (some 5)]=some (aB (a&&(b&&(c&&(d&&e))))):=by
 have:=Vd (l:=[a,b,c,d,e]) (x0 := .cD 1 [aB a,aB b,aB c,aB d,aB e] (some 5)) (.inr ⟨_,rfl,by simp⟩) (by simp);simpa using this
theorem Pc{d:AV}{Q:AV->aa->Prop}{l:List ah}(u:Sl 5 (bL l) d)(B:l.length<4611686018427387904) : ∀(s:List ah)(k:Nat)(i n:Int)(H:aa),l.drop k=s->k<=l.length->i=k ->
 (∀y H',y=aI (sN n s)->Q y H') ->
 bF env Tryz.f103 0 ng [(11,aI i),(3,aI n),(9,d),(10,aI l.length)] H Q:=by
 intro s
 induction s with
 | nil=>
  rintro k i n H hs hk rfl h
  obtain rfl:=drop_nil hs hk
  refine vU _ _ _ _ _ _ λg=>?_
  simp[ai, *,qY]
  exact h _ H rfl
 | cons a s e=>
  rintro k i n H hs hk rfl h
  obtain⟨c,f,b,p⟩:=drop_cons hs
  refine vU _ _ _ _ _ _ λg=>?_
  simp[ai, *,qY,u.idx,c,f,ah.enc,IntWalk.i64_in ((k:Int)+1) (by omega)]
  exact e (k+1) _ _ _ b (by omega) (by omega) h
section
variable{w v:AV}{us:List Clear}{qs:List ah}{gr:Int}(o:Sl 3 (bR us) w)(j:Sl 5 (bL qs) v)(m:qs.length<4611686018427387904)(A:us.length<4611686018427387904)
include o j m
@[simp] theorem SO:ak env 103 [.agg [w,v,aI gr]]=some (aI (sN gr qs)):=by
 refine an rfl (by kernel_rfl) (E8 _ _ _ λg=>?_)
 simp[ai, *,zK,o.r,j.r]
 exact Pc j m qs 0 _ _ _ rfl (by omega) rfl (λy H' e=>by simp[e])
theorem ZB{c:AV}{r1:Ref}{b:Bool}{Q:AV->aa->Prop}{l:List ah}(u:Sl 5 (bL l) c)(B:l.length<4611686018427387904) : ∀(s:List ah)(k:Nat)(i n:Int)(H:aa),l.drop k=s->k<=l.length->i=k ->
 Fr H->H.get r1=some ⟨3,[.agg [w,v,aI gr]],false,false⟩ ->
 (∀y H',y=aI (bad (b&&(!decide (2048<sN gr qs) && !decide (8192<cellsOf n s))))->Q y H') ->
 bF env Tryz.f102 0 ni [(87,aI i),(8,aI n),(85,c),(1,.ptr r1 0 0),(3,aB b),(86,aI l.length)] H Q:=by
 intro s
 induction s with
 | nil=>
  rintro k i n H hs hk rfl hF hB h
  obtain rfl:=drop_nil hs hk
  refine vV _ _ _ _ _ _ _ _ λg=>?_
  have p:=SO (gr:=gr) o j m
  simp[ai, *,qZ]
  repeat' ((first | apply iV<;>intro h | apply fZ<;>intro h | apply ga<;>intro h | apply fX<;>intro h | apply fY<;>intro h)<;>(try simp only[decide_eq_true_eq,decide_eq_false_iff_not,dN,kG,aY,fv]at h)<;>(try simp[ai, *,o.r,j.r,p,bad,cellsOf]))
 | cons a s f=>
  rintro k i n H hs hk rfl hF hB h
  obtain⟨e,q,d,t⟩:=drop_cons hs
  refine vV _ _ _ _ _ _ _ _ λg=>?_
  simp[ai, *,qZ,u.idx,e,q,ah.enc,IntWalk.i64_in ((k:Int)+1) (by omega)]
  exact f (k+1) _ _ _ d (by omega) (by omega) (by simp(maxDischargeDepth:=12) [CZ, *]) (by simp(maxDischargeDepth:=12) [CZ, *]) h
def XE(a:Bool)(p:Option ah):List ah->Bool
 | []=>a
 | q :: s=>XE (a&&(Fl q&&(match p with | none=>true | some p=>Ed p q))) (some q) s
theorem acZ{r1:Ref}{Q:AV->aa->Prop} : ∀(s:List ah)(k:Nat)(i:Int)(b:Bool)(H:aa),qs.drop k=s->k<=qs.length->i=k ->
 Fr H->H.get r1=some ⟨3,[.agg [w,v,aI gr]],false,false⟩ ->
 (∀y H',y=aI (bad (XE b (if k=0 then none else qs[k - 1]?) s&&(!decide (2048<sN gr qs) && !decide (8192<cellsOf 0 (qs.take 8)))))->Q y H') ->
 bF env Tryz.f102 0 n9 [(40,aI i),(1,.ptr r1 0 0),(3,aB b),(38,v),(39,aI qs.length)] H Q:=by
 intro s
 induction s with
 | nil=>
  rintro k i b H C hk rfl hF hB h
  obtain rfl:=drop_nil C hk
  refine xa _ _ _ _ _ _ _ λg=>?_
  have x:(if (8:Int)<qs.length then (8:Int) else qs.length)=((min 8 qs.length:Nat):Int):=by split<;>omega
  have C:=Iu (P:=env.P) (t:=23) (z:=5) (by simp) H.get j (n:=((min 8 qs.length:Nat):Int)) (by omega) (by simp;omega)
  obtain⟨y,O,F⟩:=C
  have S:(bL qs).take (min 8 qs.length)=bL (qs.take 8):=by
   rw[<-Lg];congr 1
   rcases Nat.le_total 8 qs.length with h | h
   ·rw[Hv h]
   ·rw[Pz h,fe (de _),fe h]
  rw[PC,S]at F
  simp[ai, *,jP,hB,j.len,x,O,F.len]
  have I:(qs.take 8).length=min 8 qs.length:=uG
  rw[<-I]
  exact ZB o j m F (by omega) _ 0 0 0 H rfl (by omega) rfl hF hB (λy H' e=>h y H' (by simpa [XE] using e))
 | cons a s R=>
  rintro k i b H C hk rfl hF hB h
  obtain⟨f,E,d,c⟩:=drop_cons C
  have D:=R (k+1)
  refine xa _ _ _ _ _ _ _ λg=>?_
  cases k with
  | zero=>
   have p:IntKind.i64.wrap 1=1:=rfl
   cases b
   ·simp[ai, *,jP,j.idx,f,E,ah.enc,p]
    exact D _ _ _ d (by omega) rfl (by simp(maxDischargeDepth:=12) [CZ, *]) (by simp(maxDischargeDepth:=12) [CZ, *]) (λy H' e=>h y H' (by simpa [XE,c] using e))
   ·simp[ai, *,jP,j.idx,f,E,ah.enc,p]
    exact D _ _ _ d (by omega) rfl (by simp(maxDischargeDepth:=12) [CZ, *]) (by simp(maxDischargeDepth:=12) [CZ, *]) (λy H' e=>h y H' (by simpa [XE,c,Fl] using e))
  | succ k=>
   have p:IntKind.i64.wrap ((k:Int)+1+1)=(k:Int)+1+1:=IntWalk.i64_in _ (by omega)
   have N:IntKind.i64.wrap (k:Int)=k:=IntWalk.i64_in _ (by omega)
   have M : ¬(k:Int)<0:=by omega
   have L : ¬(k:Int)+1=0:=by omega
   have G:k<qs.length:=by omega
   have J:(k:Int)+1<qs.length:=by omega
   have K:(0:Int)<=k+1:=by omega
   cases b
   ·simp[ai, *,jP,j.idx,f,E,ah.enc,p,N,M,L,G,J,K]
    exact D _ _ _ d (by omega) (by simp) (by simp(maxDischargeDepth:=12) [CZ, *]) (by simp(maxDischargeDepth:=12) [CZ, *]) (λy H' e=>h y H' (by simpa [XE,c] using e))
   ·simp[ai, *,jP,j.idx,f,E,ah.enc,p,N,M,L,G,J,K,hB,dH hF (q:=r1)]
    exact D _ _ _ d (by omega) (by simp) (by simp(maxDischargeDepth:=12) [CZ, *]) (by simp(maxDischargeDepth:=12) [CZ, *]) (λy H' e=>h y H' (by simpa [XE,c,Fl,Ed,fj G,yK] using e))
omit o j m in
theorem Y0 : ∀(s:List ah)(a:Bool)(p:Option ah),XE a p s=(a&&Am p s):=by
 intro s
 induction s with
 | nil=>intro a p;simp[XE,Am]
 | cons q s b=>intro a p;cases p<;>simp[XE,Am,b,yK]
include A
theorem ac0{r1:Ref}{Q:AV->aa->Prop} : ∀(s:List Clear)(k:Nat)(i:Int)(b:Bool)(H:aa),us.drop k=s->k<=us.length->i=k ->
 Fr H->H.get r1=some ⟨3,[.agg [w,v,aI gr]],false,false⟩ ->
 (∀y H',y=aI (bad (((b&&s.all λc=>o8 c.lv c.cats c.ok)&&Am none qs)&&(!decide (2048<sN gr qs) && !decide (8192<cellsOf 0 (qs.take 8)))))->Q y H') ->
 bF env Tryz.f102 0 oa [(27,aI i),(3,aB b),(25,w),(1,.ptr r1 0 0),(26,aI us.length)] H Q:=by
 intro s
 induction s with
 | nil=>
  rintro k i b H hs hk rfl hF hB hQ
  obtain rfl:=drop_nil hs hk
  refine xb _ _ _ _ _ _ _ λg=>?_
  simp[ai, *,sV,hB,j.len]
  exact acZ o j m qs 0 0 b H rfl (by omega) rfl hF hB (λy H' e=>hQ y H' (by simpa [Y0] using e))
 | cons a s n=>
  rintro k i b H hs hk rfl hF hB hQ
  obtain⟨f,p,d,q⟩:=drop_cons hs
  refine xb _ _ _ _ _ _ _ λg=>?_
  simp[ai, *,sV,o.idx,f,p,Clear.enc]
  repeat' ((first | apply iV<;>intro h | apply fZ<;>intro h | apply ga<;>intro h | apply fX<;>intro h | apply fY<;>intro h)<;>(try simp only[decide_eq_true_eq,decide_eq_false_iff_not,dN,kG,aY,fv]at h)<;>(try simp[ai, *,o.idx,f,p,Clear.enc]))
  ·simp[IntWalk.i64_in ((k:Int)+1) (by omega)]
   exact n (k+1) _ _ _ d (by omega) (by simp) (by simp(maxDischargeDepth:=12) [CZ, *]) (by simp(maxDischargeDepth:=12) [CZ, *]) (λy H' e=>hQ y H' (by simp[*,yK]))
  ·simp[IntWalk.i64_in ((k:Int)+1) (by omega)]
   exact n (k+1) _ _ _ d (by omega) (by simp) (by simp(maxDischargeDepth:=12) [CZ, *]) (by simp(maxDischargeDepth:=12) [CZ, *]) (λy H' e=>hQ y H' (by simp[*,yK]))
@[simp] theorem D6:ak env 102 [.agg [w,v,aI gr]]=some (aI (bad (tY us qs gr))):=by
 refine an rfl (by kernel_rfl) (GC _ _ _ λg=>?_)
 simp[ai, *,A6,o.r,j.r]
 refine ac0 (gr:=gr) o j m A us 0 _ _ _ rfl (by omega) rfl ?_ ?_ ?_
 ·simp(maxDischargeDepth:=12) [CZ, *]
 ·simp(maxDischargeDepth:=12) [CZ, *]
 rintro y H' rfl
 simp only[YZ (f:=17) (by rfl),aG,aa7,dT]
 rw[tY,agP,agP]
 have e (n:Nat):decide ((n:Int)<=8)=decide (n<=8):=by congr 1;exact propext (by omega)
 simp only[e,yK]
@[simp] theorem Ny(a:UInt8)(b:UInt32):ak env 104 [.agg [w,v,aI gr],.agg [a8 a,ae b]]=some (aI (oU us qs gr a)):=by
 refine an rfl (by kernel_rfl) (GA _ _ _ _ λg=>?_)
 simp[ai, *,A4,o.r,j.r,D6 o j m A,oU]
end
end
section
attribute [local simp] aG ay bQ gX
section
variable{m j:AV}{us:List Clear}{qs:List ah}{gr:Int}(f:Sl 3 (bR us) m)(c:Sl 5 (bL qs) j)(d:qs.length<4611686018427387904)(l:us.length<4611686018427387904)
include f c d l
@[simp] theorem Vq(e:Int)(a:UInt8)(b:UInt32):ak env 174 [.agg [m,j,aI gr],aI e,.agg [a8 a,ae b]]=some (.tup [aB (decide (oU us qs gr a=0)&&eL us e a b),aI (oU us qs gr a)]):=by
 refine an rfl (by kernel_rfl) (JQ _ _ _ _ _ λg=>?_)
 simp[ai, *,CT,f.r,c.r,Ny f c d l]
 by_cases p:0<=e/\e<us.length
 ·obtain⟨n,rfl⟩:=M4 p.1
  have o:n<us.length:=by omega
  have i : ¬(n:Int)<0:=by omega
  have k : ¬(us.length:Int)<=n:=by omega
  repeat' ((first | apply iV<;>intro h | apply fZ<;>intro h | apply ga<;>intro h | apply fX<;>intro h | apply fY<;>intro h)<;>(try simp only[decide_eq_true_eq,decide_eq_false_iff_not,dN,kG,aY,fv]at h)<;>(try simp[ai, *,f.r,c.r,f.idx,o,i,k,eL,Clear.enc]))
 ·have i : ¬e<0->(us.length:Int)<=e:=by omega
  repeat' ((first | apply iV<;>intro h | apply fZ<;>intro h | apply ga<;>intro h | apply fX<;>intro h | apply fY<;>intro h)<;>(try simp only[decide_eq_true_eq,decide_eq_false_iff_not,dN,kG,aY,fv]at h)<;>(try simp[ai, *,f.r,c.r,f.idx,eL,Clear.enc]))
end
@[simp] theorem Vr{m j:AV}{us:List Clear}{qs:List ah}(gr:Int)(f:Sl 3 (bR us) m)(c:Sl 5 (bL qs) j):ak env 63 [.agg [m,j,aI gr]]=some (aB (decide (100<(us.length:Int))||decide (100<(qs.length:Int)))):=by
 refine an rfl (by kernel_rfl) (yd _ _ _ λg=>?_)
 simp[ai, *,qI,f.r,c.r]
 repeat' ((first | apply iV<;>intro h | apply fZ<;>intro h | apply ga<;>intro h | apply fX<;>intro h | apply fY<;>intro h)<;>(try simp only[decide_eq_true_eq,decide_eq_false_iff_not,dN,kG,aY,fv]at h)<;>(try simp[ai, *,f.r,c.r]))
@[simp] theorem akJ(a:UInt8)(b:UInt32)(x y z:Int):ak env 106 [.agg [a8 a,ae b,aI x,aI y,aI z]]=some (.agg [a8 a,ae b]):=by
 refine an rfl (by kernel_rfl) (DD _ _ _ λg=>?_)
 simp[ai, *,xF]
@[simp] theorem agj(q:ah)(a:UInt8)(b:UInt32):ak env 171 [.agg [a8 q.lv,ae q.cats,aI q.opens,aI q.ops,aI q.cells],.iptr 1 [.fn (.func 106) [] []] 0 0,.iptr 2 [.agg [a8 a,ae b]] 0 0]=some (aB (xA a b q)):=by
 refine an rfl (by kernel_rfl) (iT _ _ _ _ _ λg=>?_)
 simp[ai, *,dI,fw,bM,xA]
def uT(a:UInt8)(b:UInt32):List ah->Nat->Int
 | [],_ => -1
 | q :: s,k=>if xA a b q=true then k else uT a b s (k+1)
section
variable{j:AV}{qs:List ah}(c:Sl 5 (bL qs) j)(d:qs.length<4611686018427387904)
include c d
theorem I8{a:UInt8}{b:UInt32}{Q:AV->aa->Prop} : ∀(s:List ah)(k:Nat)(i:Int)(H:aa),qs.drop k=s->k<=qs.length->i=k->(∀y H',y=aI (uT a b s k)->Q y H') ->
 bF env Tryz.f170 0 bj [(8,aI i),(0,j),(1,.fn (.func 171) [] [.iptr 1 [.fn (.func 106) [] []] 0 0,.iptr 2 [.agg [a8 a,ae b]] 0 0]),(7,aI qs.length)] H Q:=by
 intro s
 induction s with
 | nil=>
  rintro k i H hs hk rfl hQ
  obtain rfl:=drop_nil hs hk
  refine cQ _ _ _ _ _ _ λg=>?_
  simp[ai, *,bO]
  all_goals (first | exact hQ _ _ rfl | exact hQ _ _ (by simp[*]))
 | cons q s p=>
  rintro k i H hs hk rfl hQ
  obtain⟨o,t,n,u⟩:=drop_cons hs
  refine cQ _ _ _ _ _ _ λg=>?_
  simp[ai, *,bO,c.idx,o,t,ah.enc]
  refine iV (λh=>?_) (λh=>?_)
  ·all_goals (first | exact hQ _ _ rfl | exact hQ _ _ (by simp[*,uT]))
  simp[IntWalk.i64_in ((k:Int)+1) (by omega)]
  exact p (k+1) _ _ n (by omega) (by simp) (λy H' e=>hQ y H' (by simp[*,uT]))
@[simp] theorem NF(a:UInt8)(b:UInt32):ak env 170 [j,.fn (.func 171) [] [.iptr 1 [.fn (.func 106) [] []] 0 0,.iptr 2 [.agg [a8 a,ae b]] 0 0]]=some (aI (uT a b qs 0)):=by
 refine an rfl (by kernel_rfl) (gK _ _ _ _ λg=>?_)
 simp[ai, *,db,c.r]
 exact I8 c d qs 0 _ _ rfl (by omega) (by simp) (λy H' e=>by simp[e])
omit c d in
theorem Kb(a:UInt8)(b:UInt32) : ∀(s:List ah)(k:Nat),qs.drop k=s->(uT a b s k = -1/\s.find? (xA a b)=none) \/∃n,∃h:n<qs.length,uT a b s k=(n:Int)/\s.find? (xA a b)=some qs[n]:=by
 intro s
 induction s with
 | nil=>intro k _;exact .inl ⟨rfl,rfl⟩
 | cons q s p=>
  intro k v
  obtain⟨o,u,g,w⟩:=drop_cons v
  unfold uT
  by_cases h:xA a b q=true
  ·exact .inr ⟨k,o,by simp[h],by simp[h,u]⟩
  ·rcases p (k+1) g with ⟨i,e⟩ | ⟨n,t,i,e⟩
   ·exact .inl ⟨by simp[h,i],by simp[h,e]⟩
   ·exact .inr ⟨n,t,by simp[h,i],by simp[h,e]⟩
@[simp] theorem Va(a:UInt8)(b:UInt32):ak env 105 [j,.agg [a8 a,ae b],.fn (.func 106) [] []]=some (match qs.find? (xA a b) with
 | some q => .tup [.agg q.enc,aB true]
 | none => .tup [.agg (ah.mk 0 0 0 0 0).enc,aB false]):=by
 refine an rfl (by kernel_rfl) (jl _ _ _ _ _ λg=>?_)
 simp[ai, *,dW,c.r,NF c d]
 rcases Kb a b qs 0 rfl with ⟨h,e⟩ | ⟨n,k,h,e⟩
 ·rw[h,e]
  simp[ah.enc]
 ·have i : ¬(n:Int)<0:=by omega
  rw[h,e]
  simp[c.idx,k,i,ah.enc]
end
end
section
attribute [local simp] aG ay bQ gX
def kT(us:List Clear)(qs:List ah)(gr:Int)(a:UInt8)(b:UInt32):ah:=if oU us qs gr a=0 then la qs a b else ⟨0,0,0,0,0⟩
section
variable{j i:AV}{us:List Clear}{qs:List ah}{gr:Int}(e:Sl 3 (bR us) j)(d:Sl 5 (bL qs) i)(c:qs.length<4611686018427387904)(f:us.length<4611686018427387904)
include e d c f
@[simp] theorem LQ(a:UInt8)(b:UInt32):ak env 44 [.agg [j,i,aI gr],.agg [a8 a,ae b]]=some (.tup [.agg (kT us qs gr a b).enc,aI (oU us qs gr a)]):=by
 refine an rfl (by kernel_rfl) (GB _ _ _ _ λg=>?_)
 simp[ai, *,A5,e.r,d.r,Ny e d c f,mc]
 unfold kT la
 refine iV (λh=>?_) (λh=>?_)
 ·have h:oU us qs gr a≠0:=by simpa using h
  simp[h,ah.enc]
 ·have h:oU us qs gr a=0:=by simpa using h
  cases k:qs.find? (xA a b) with
  | none=>simp[e.r,d.r,Va d c,k,ah.enc,h,mc]
  | some q=>simp[e.r,d.r,Va d c,k,ah.enc,h,mc]
end
end
section
attribute [local simp] aG ay bQ gX aM aA aD bI bH bn
theorem agO:bY env.P .eql 22 (.tmp 3) (.const (.slice none 0 0)) (some ba) (some ba)=some (aB true,[]):=by kernel_rfl
theorem agN:bY env.P .eql 23 (.tmp 3) (.const (.slice none 0 0)) (some ba) (some ba)=some (aB true,[]):=by kernel_rfl
theorem VF{b:AV}{us:List Clear}(a:Sl 3 (bR us) b)(e:us.length * 12<=140737488355328):ak env 205 [b]=some (sM b):=by
 rcases a.Wh with ⟨rfl,he⟩ | ⟨c,rfl⟩
 ·refine an rfl (by kernel_rfl) (cf _ _ _ λg=>?_)
  simp[ai, *,bC,agO]
 ·by_cases i:us=[]
  ·refine an rfl (by kernel_rfl) (cf _ _ _ λg=>?_)
   subst i
   simp[ai, *,bC]
  ·refine an rfl (by kernel_rfl) (cf _ _ _ λg=>?_)
   simp[ai, *,bC,Hi,rE]
theorem VE{b:AV}{us:List ah}(a:Sl 5 (bL us) b)(e:us.length * 32<=140737488355328):ak env 206 [b]=some (sM b):=by
 rcases a.Wh with ⟨rfl,he⟩ | ⟨c,rfl⟩
 ·refine an rfl (by kernel_rfl) (cd _ _ _ λg=>?_)
  simp[ai, *,bB,agN]
 ·by_cases i:us=[]
  ·refine an rfl (by kernel_rfl) (cd _ _ _ λg=>?_)
   subst i
   simp[ai, *,bB]
  ·refine an rfl (by kernel_rfl) (cd _ _ _ λg=>?_)
   simp[ai, *,bB,Hi,rE]
section
variable{b f:AV}{us:List Clear}{qs:List ah}{gr:Int}(a:Sl 3 (bR us) b)(d:Sl 5 (bL qs) f)(h:qs.length * 32<=140737488355328)(e:us.length * 12<=140737488355328)
include a d h e
theorem RN:ak env 160 [.agg [b,f,aI gr]]=some (.agg [sM b,sM f,aI gr]):=by
 have m:=VF a e
 have k:=VE d h
 have l:=wD a
 have j:=wD d
 generalize sM b=yu at *
 generalize sM f=yq at *
 refine an rfl (by kernel_rfl) (HW _ _ _ λg=>?_)
 rcases l with ⟨rfl,i⟩ | rfl | ⟨rfl,i⟩<;>rcases j with ⟨rfl,c⟩ | rfl | ⟨rfl,c⟩<;>simp[ai, *,BY,a.r,d.r,aw]
theorem Yb:ak env 204 [.agg [b,f,aI gr]]=some (.agg [ym 3 (bR us),ym 5 (bL qs),aI gr]):=by
 refine an rfl (by kernel_rfl) (y9 _ _ _ λg=>?_)
 by_cases i:us=[]
 ·by_cases c:qs=[]
  ·subst i;subst c
   simp[ai, *,gG,a.r,d.r,a.lg,d.lg]
  ·subst i
   simp[ai, *,gG,a.r,d.r,a.lg,d.lg,Ap]
 ·by_cases c:qs=[]
  ·subst c
   simp[ai, *,gG,a.r,d.r,a.lg,d.lg,Ap]
  ·simp[ai, *,gG,a.r,d.r,a.lg,d.lg,Ap]
end
end
end Go.Proofs.YtmkmimgokagimaaGreat
