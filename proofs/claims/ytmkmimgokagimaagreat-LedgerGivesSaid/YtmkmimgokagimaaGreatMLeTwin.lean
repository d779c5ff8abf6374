/-
  Labels: what the functions answer. No statement of a seat is proved here.
-/
import Derived.Test.YtmkmimgokagimaaGreatMOmRep
set_option linter.unusedVariables false
set_option linter.unusedSimpArgs false
set_option linter.unusedSectionVars false
set_option linter.unnecessarySimpa false
set_option maxRecDepth 100000
set_option linter.defProp false
namespace Go.Proofs.YtmkmimgokagimaaGreat
open Go.Ab
section
attribute [local simp] aJ az aX lZ
@[simp] def Sw(a:UInt8)(b:UInt32):ax env 76 [.agg [a8 a,af b]]=some (aI (zP a)):=by
 refine ay rfl (by kernel_rfl) (AX _ _ _ λg=>?_);simp[ai, *,wg];repeat' ((first | apply ji<;>intro h | apply fY<;>intro h | apply fZ<;>intro h | apply fW<;>intro h | apply fX<;>intro h)<;>(try simp only[iQb,iQc,dI,kT,aT,fp]at h)<;>(try simp[ai, *,zP]))
@[simp] def Pu(a:UInt8)(b:UInt32)(c:UInt8)(d:UInt32):ax env 47 [.agg [a8 a,af b],.agg [a8 c,af d]]=some (aB (Wr a b c d)):=by
 refine ay rfl (by kernel_rfl) (Dg _ _ _ _ λg=>?_);simp[ai, *,z3];repeat' ((first | apply ji<;>intro h | apply fY<;>intro h | apply fZ<;>intro h | apply fW<;>intro h | apply fX<;>intro h)<;>(try simp only[iQb,iQc,dI,kT,aT,fp]at h)<;>(try simp[ai, *,Wr]))
@[simp] def ah6(a:UInt8)(b:UInt32)(c:UInt8)(d:UInt32):ax env 169 [.agg [a8 a,af b],.agg [a8 c,af d]]=some (aB (IX a b c d)):=by
 refine ay rfl (by kernel_rfl) (Hj _ _ _ _ λg=>?_);simp[ai, *,Bv,mg,ia,cg];repeat' ((first | apply ji<;>intro h | apply fY<;>intro h | apply fZ<;>intro h | apply fW<;>intro h | apply fX<;>intro h)<;>(try simp only[iQb,iQc,dI,kT,aT,fp]at h)<;>(try simp[ai, *,IX,mg,ia,cg]))
@[simp] theorem Yk:ax env 185 []=some (.agg [a8 0,af 0]):=by
 refine ay rfl (by kernel_rfl) (AW _ _ λg=>?_);simp[ai, *,we,mg]
@[simp] def ai9(n m:Int):ax env 167 [aI n,aI m]=some (aB (decide (0<=n)&&decide (n<=m))):=by
 refine ay rfl (by kernel_rfl) (Hf _ _ _ _ λg=>?_);simp[ai, *,Bs];repeat' ((first | apply ji<;>intro h | apply fY<;>intro h | apply fZ<;>intro h | apply fW<;>intro h | apply fX<;>intro h)<;>(try simp only[iQb,iQc,dI,kT,aT,fp]at h)<;>(try simp[ai, *]))
@[simp] def ajd(a:UInt8)(b:UInt32):ax env 78 [.agg [a8 a,af b]]=some (aB (decide (a<=15))):=by
 refine ay rfl (by kernel_rfl) (zx _ _ _ λg=>?_);simp[ai, *,sR]
@[simp] def ah3(v:UInt8)(c:UInt32)(ok:Bool):ax env 168 [.agg [a8 v,af c,aB ok]]=some (aB (o6 v c ok)):=by
 refine ay rfl (by kernel_rfl) (F1 _ _ _ λg=>?_);simp[ai, *,Au,mg,ia,cg];repeat' ((first | apply ji<;>intro h | apply fY<;>intro h | apply fZ<;>intro h | apply fW<;>intro h | apply fX<;>intro h)<;>(try simp only[iQb,iQc,dI,kT,aT,fp]at h)<;>(try simp[ai, *,o6,mg,ia,cg]))
@[simp] def Z4(v:UInt8)(c:UInt32)(ok:Bool):ax env 178 [.agg [a8 v,af c,aB ok]]=some (aB (o6 v c ok)):=by
 refine ay rfl (by kernel_rfl) (uZ _ _ _ λg=>?_);simp[ai, *,oy,mg,ia,cg];repeat' ((first | apply ji<;>intro h | apply fY<;>intro h | apply fZ<;>intro h | apply fW<;>intro h | apply fX<;>intro h)<;>(try simp only[iQb,iQc,dI,kT,aT,fp]at h)<;>(try simp[ai, *,o6,mg,ia,cg]))
def w6(b:Bool):List Bool->Nat->Int
 | [],_ => -1
 | x :: l,k=>if b=x then k else w6 b l (k+1)
def Y6(b:Bool) : ∀(l:List Bool)(k:Nat),(0<=w6 b l k↔l.contains b=true):=by
 intro l;induction l with
 | nil=>intro k;simp[w6]
 | cons x l a=>
  intro k;unfold w6;split;·rename_i e;subst e;simp
  rename_i e;rw[a (k+1)];have:(b == x)=false:=by cases b<;>cases x<;>simp_all
  simp only[List.contains_cons,this,Er]
section
variable{x0:AV}{l:List Bool}(o:Sl 1 (agR l) x0)(B:l.length<4611686018427387904)
include o B
theorem P8{b:Bool}{Q:AV->aa->Prop} : ∀(s:List Bool)(k:Nat)(i:Int)(H:aa),l.drop k=s->k<=l.length->i=k->(∀y H',y=aI (w6 b s k)->Q y H') ->
 bu env Tryz.f227 0 fv [(8,aI i),(0,x0),(1,aB b),(7,aI l.length)] H Q:=by
 intro s;induction s with
 | nil=>rintro k i H hs hk rfl h;obtain rfl:=drop_nil hs hk;refine mL _ _ _ _ _ _ λg=>?_;simp[ai, *,jv];exact h _ H rfl
 | cons a s q=>
  rintro k i H hs hk rfl h;obtain⟨d,f,c,p⟩:=drop_cons hs;refine mL _ _ _ _ _ _ λg=>?_;simp[ai, *,jv,o.idx,d,f,iQa ((k:Int)+1) (by omega)];refine acN (λe=>?_) (λe=>?_);·exact h _ _ (by simp[w6,e])
  simp[iQa ((k:Int)+1) (by omega)];exact q (k+1) _ _ c (by omega) (by omega) (λy H' n=>h y H' (by simp[w6,e,n]))
@[simp] theorem Yl(b:Bool):ax env 227 [x0,aB b]=some (aI (w6 b l 0)):=by
 refine ay rfl (by kernel_rfl) (uG _ _ _ _ λg=>?_);simp[ai, *,nQ,o.len];exact P8 o B l 0 _ _ rfl (by omega) (by simp) (λy H' e=>by simp[e])
@[simp] theorem Pw(b:Bool):ax env 212 [x0,aB b]=some (aB (l.contains b)):=by
 refine ay rfl (by kernel_rfl) (sW _ _ _ _ λg=>?_);have:=Y6 b l 0;simp[ai, *,mC,o.r,Yl o B,this]
@[simp] theorem UZ:ax env 166 [x0]=some (aB (l.all id)):=by
 refine ay rfl (by kernel_rfl) (Jf _ _ _ λg=>?_);have:(!l.contains false)=l.all id:=by
  clear o B;induction l with
  | nil=>rfl
  | cons b l a=>cases b<;>simp_all
 simp[ai, *,Cp,o.r,Pw o B,<-this]
end
@[simp] def ajb(a b c:Bool):ax env 166 [.cC 1 [aB a,aB b,aB c] (some 3)]=some (aB (a&&(b&&c))):=by
 have:=UZ (l:=[a,b,c]) (x0 := .cC 1 [aB a,aB b,aB c] (some 3)) (.inr ⟨_,rfl,by simp⟩) (by simp);simpa using this
@[simp] def aja(a b c d e:Bool):ax env 166 [.cC 1 [aB a,aB b,aB c,aB d,aB e] (some 5)]=some (aB (a&&(b&&(c&&(d&&e))))):=by
 have:=UZ (l:=[a,b,c,d,e]) (x0 := .cC 1 [aB a,aB b,aB c,aB d,aB e] (some 5)) (.inr ⟨_,rfl,by simp⟩) (by simp);simpa using this
def Om{x9:AV}{Q:AV->aa->Prop}{l:List ak}(o:Sl 5 (cR l) x9)(B:l.length<4611686018427387904) : ∀(s:List ak)(k:Nat)(i n:Int)(H:aa),l.drop k=s->k<=l.length->i=k ->
 (∀y H',y=aI (sw n s)->Q y H') ->
 bu env Tryz.f103 0 nC [(11,aI i),(3,aI n),(9,x9),(10,aI l.length)] H Q:=by
 intro s;induction s with
 | nil=>rintro k i n H hs hk rfl h;obtain rfl:=drop_nil hs hk;refine vt _ _ _ _ _ _ λg=>?_;simp[ai, *,qK];exact h _ H rfl
 | cons a s f=>rintro k i n H hs hk rfl h;obtain⟨c,d,b,e⟩:=drop_cons hs;refine vt _ _ _ _ _ _ λg=>?_;simp[ai, *,qK,o.idx,c,d,ak.enc,iQa ((k:Int)+1) (by omega)];exact f (k+1) _ _ _ b (by omega) (by omega) h
section
variable{w v:AV}{us:List Clear}{qs:List ak}{gr:Int}(u:Sl 3 (de us) w)(j:Sl 5 (cR qs) v)(m:qs.length<4611686018427387904)(A:us.length<4611686018427387904)
include u j m
@[simp] theorem Sb:ax env 103 [.agg [w,v,aI gr]]=some (aI (sw gr qs)):=by
 refine ay rfl (by kernel_rfl) (EB _ _ _ λg=>?_);simp[ai, *,y7,u.r,j.r];exact Om j m qs 0 _ _ _ rfl (by omega) rfl (λy H' e=>by simp[e])
theorem ZA{c:AV}{r1:Ref}{b:Bool}{Q:AV->aa->Prop}{l:List ak}(o:Sl 5 (cR l) c)(B:l.length<4611686018427387904) : ∀(s:List ak)(k:Nat)(i n:Int)(H:aa),l.drop k=s->k<=l.length->i=k ->
 Fr H->H.get r1=some ⟨3,[.agg [w,v,aI gr]],false,false⟩ ->
 (∀y H',y=aI (bad (b&&(!decide (2048<sw gr qs) && !decide (8192<cellsOf n s))))->Q y H') ->
 bu env Tryz.f102 0 nD [(87,aI i),(8,aI n),(85,c),(1,.ptr r1 0 0),(3,aB b),(86,aI l.length)] H Q:=by
 intro s;induction s with
 | nil=>rintro k i n H hs hk rfl hF hB h;obtain rfl:=drop_nil hs hk;refine vv _ _ _ _ _ _ _ _ λg=>?_;have q:=Sb (gr:=gr) u j m;simp[ai, *,qL];repeat' ((first | apply ji<;>intro h | apply fY<;>intro h | apply fZ<;>intro h | apply fW<;>intro h | apply fX<;>intro h)<;>(try simp only[iQb,iQc,dI,kT,aT,fp]at h)<;>(try simp[ai, *,u.r,j.r,q,bad,cellsOf]))
 | cons a s t=>rintro k i n H hs hk rfl hF hB h;obtain⟨e,f,d,p⟩:=drop_cons hs;refine vv _ _ _ _ _ _ _ _ λg=>?_;simp[ai, *,qL,o.idx,e,f,ak.enc,iQa ((k:Int)+1) (by omega)];exact t (k+1) _ _ _ d (by omega) (by omega) (by simp(maxDischargeDepth:=12) [BV, *]) (by simp(maxDischargeDepth:=12) [BV, *]) h
def XF(a:Bool)(p:Option ak):List ak->Bool
 | []=>a
 | q :: s=>XF (a&&(EK q&&(match p with | none=>true | some p=>Dw p q))) (some q) s
theorem acG{r1:Ref}{Q:AV->aa->Prop} : ∀(s:List ak)(k:Nat)(i:Int)(b:Bool)(H:aa),qs.drop k=s->k<=qs.length->i=k ->
 Fr H->H.get r1=some ⟨3,[.agg [w,v,aI gr]],false,false⟩ ->
 (∀y H',y=aI (bad (XF b (if k=0 then none else qs[k - 1]?) s&&(!decide (2048<sw gr qs) && !decide (8192<cellsOf 0 (qs.take 8)))))->Q y H') ->
 bu env Tryz.f102 0 oh [(40,aI i),(1,.ptr r1 0 0),(3,aB b),(38,v),(39,aI qs.length)] H Q:=by
 intro s;induction s with
 | nil=>
  rintro k i b H p hk rfl hF hB h;obtain rfl:=drop_nil p hk;refine wK _ _ _ _ _ _ _ λg=>?_;have C:(if (8:Int)<qs.length then (8:Int) else qs.length)=((min 8 qs.length:Nat):Int):=by split<;>omega
  have p:=HC (P:=env.P) (t:=23) (z:=5) (by simp) H.get j (n:=((min 8 qs.length:Nat):Int)) (by omega) (by simp;omega);obtain⟨y,O,G⟩:=p;have S:(cR qs).take (min 8 qs.length)=cR (qs.take 8):=by
   rw[<-Kw];congr 1;rcases iQZ 8 qs.length with h | h
   ·rw[GM h]
   rw[OL h,gj (cH _),gj h]
  rw[ON,S]at G;simp[ai, *,kj,hB,j.len,C,O,G.len];have I:(qs.take 8).length=min 8 qs.length:=nZ;rw[<-I];exact ZA u j m G (by omega) _ 0 0 0 H rfl (by omega) rfl hF hB (λy H' e=>h y H' (by simpa [XF] using e))
 | cons a s R=>
  rintro k i b H p hk rfl hF hB h;obtain⟨f,D,c,d⟩:=drop_cons p;have E:=R (k+1);refine wK _ _ _ _ _ _ _ λg=>?_;cases k with
  | zero=>
   have x:IntKind.i64.wrap 1=1:=rfl;cases b;·simp[ai, *,kj,j.idx,f,D,ak.enc,x];exact E _ _ _ c (by omega) rfl (by simp(maxDischargeDepth:=12) [BV, *]) (by simp(maxDischargeDepth:=12) [BV, *]) (λy H' e=>h y H' (by simpa [XF,d] using e))
   simp[ai, *,kj,j.idx,f,D,ak.enc,x];exact E _ _ _ c (by omega) rfl (by simp(maxDischargeDepth:=12) [BV, *]) (by simp(maxDischargeDepth:=12) [BV, *]) (λy H' e=>h y H' (by simpa [XF,d,EK] using e))
  | succ k=>
   have x:IntKind.i64.wrap ((k:Int)+1+1)=(k:Int)+1+1:=iQa _ (by omega);have L:IntKind.i64.wrap (k:Int)=k:=iQa _ (by omega);have N : ¬(k:Int)<0:=by omega
   have K : ¬(k:Int)+1=0:=(by omega);have F:k<qs.length:=(by omega);have J:(k:Int)+1<qs.length:=(by omega);have M:(0:Int)<=k+1:=(by omega);cases b;·simp[ai, *,kj,j.idx,f,D,ak.enc,x,L,N,K,F,J,M];exact E _ _ _ c (by omega) (by simp) (by simp(maxDischargeDepth:=12) [BV, *]) (by simp(maxDischargeDepth:=12) [BV, *]) (λy H' e=>h y H' (by simpa [XF,d] using e))
   simp[ai, *,kj,j.idx,f,D,ak.enc,x,L,N,K,F,J,M,hB,bE hF (q:=r1)];exact E _ _ _ c (by omega) (by simp) (by simp(maxDischargeDepth:=12) [BV, *]) (by simp(maxDischargeDepth:=12) [BV, *]) (λy H' e=>h y H' (by simpa [XF,d,EK,Dw,dy F,AJ] using e))
omit u j m in
theorem Zc : ∀(s:List ak)(a:Bool)(p:Option ak),XF a p s=(a&&zG p s):=by
 intro s;induction s with
 | nil=>intro a p;simp[XF,zG]
 | cons q s b=>intro a p;cases p<;>simp[XF,zG,b,AJ]
include A
theorem acH{r1:Ref}{Q:AV->aa->Prop} : ∀(s:List Clear)(k:Nat)(i:Int)(b:Bool)(H:aa),us.drop k=s->k<=us.length->i=k ->
 Fr H->H.get r1=some ⟨3,[.agg [w,v,aI gr]],false,false⟩ ->
 (∀y H',y=aI (bad (((b&&s.all λc=>o6 c.lv c.cats c.ok)&&zG none qs)&&(!decide (2048<sw gr qs) && !decide (8192<cellsOf 0 (qs.take 8)))))->Q y H') ->
 bu env Tryz.f102 0 om [(27,aI i),(3,aB b),(25,w),(1,.ptr r1 0 0),(26,aI us.length)] H Q:=by
 intro s;induction s with
 | nil=>rintro k i b H hs hk rfl hF hB hQ;obtain rfl:=drop_nil hs hk;refine wL _ _ _ _ _ _ _ λg=>?_;simp[ai, *,sF,hB,j.len];exact acG u j m qs 0 0 b H rfl (by omega) rfl hF hB (λy H' e=>hQ y H' (by simpa [Zc] using e))
 | cons a s p=>
  rintro k i b H hs hk rfl hF hB hQ;obtain⟨f,n,d,q⟩:=drop_cons hs;refine wL _ _ _ _ _ _ _ λg=>?_;simp[ai, *,sF,u.idx,f,n,Clear.enc];repeat' ((first | apply ji<;>intro h | apply fY<;>intro h | apply fZ<;>intro h | apply fW<;>intro h | apply fX<;>intro h)<;>(try simp only[iQb,iQc,dI,kT,aT,fp]at h)<;>(try simp[ai, *,u.idx,f,n,Clear.enc]))
  ·simp[iQa ((k:Int)+1) (by omega)];exact p (k+1) _ _ _ d (by omega) (by simp) (by simp(maxDischargeDepth:=12) [BV, *]) (by simp(maxDischargeDepth:=12) [BV, *]) (λy H' e=>hQ y H' (by simp[*,AJ]))
  simp[iQa ((k:Int)+1) (by omega)];exact p (k+1) _ _ _ d (by omega) (by simp) (by simp(maxDischargeDepth:=12) [BV, *]) (by simp(maxDischargeDepth:=12) [BV, *]) (λy H' e=>hQ y H' (by simp[*,AJ]))
@[simp] theorem Dr:ax env 102 [.agg [w,v,aI gr]]=some (aI (bad (uj us qs gr))):=by
 refine ay rfl (by kernel_rfl) (F5 _ _ _ λg=>?_);simp[ai, *,Ax,u.r,j.r];refine acH (gr:=gr) u j m A us 0 _ _ _ rfl (by omega) rfl ?_ ?_ ?_;·simp(maxDischargeDepth:=12) [BV, *]
 ·simp(maxDischargeDepth:=12) [BV, *]
 rintro y H' rfl;simp only[Za (f:=17) (by rfl),aJ,aaX,dG];rw[uj,af7,af7];have e (n:Nat):decide ((n:Int)<=8)=decide (n<=8):=by congr 1;exact propext (by omega)
 simp only[e,AJ]
@[simp] theorem My(a:UInt8)(b:UInt32):ax env 104 [.agg [w,v,aI gr],.agg [a8 a,af b]]=some (aI (Ap us qs gr a)):=by
 refine ay rfl (by kernel_rfl) (F3 _ _ _ _ λg=>?_);simp[ai, *,Av,u.r,j.r,Dr u j m A,Ap]
end
section
variable{m f:AV}{us:List Clear}{qs:List ak}{gr:Int}(j:Sl 3 (de us) m)(c:Sl 5 (cR qs) f)(d:qs.length<4611686018427387904)(l:us.length<4611686018427387904)
include j c d l
@[simp] theorem abc(e:Int)(a:UInt8)(b:UInt32):ax env 174 [.agg [m,f,aI gr],aI e,.agg [a8 a,af b]]=some (.tup [aB (decide (Ap us qs gr a=0)&&pD us e a b),aI (Ap us qs gr a)]):=by
 refine ay rfl (by kernel_rfl) (Jg _ _ _ _ _ λg=>?_);simp[ai, *,Cq,j.r,c.r,My j c d l];by_cases k:0<=e/\e<us.length
 ·obtain⟨n,rfl⟩:=GY k.1;have o:n<us.length:=by omega
  have i : ¬(n:Int)<0:=(by omega);have p : ¬(us.length:Int)<=n:=(by omega);repeat' ((first | apply ji<;>intro h | apply fY<;>intro h | apply fZ<;>intro h | apply fW<;>intro h | apply fX<;>intro h)<;>(try simp only[iQb,iQc,dI,kT,aT,fp]at h)<;>(try simp[ai, *,j.r,c.r,j.idx,o,i,p,pD,Clear.enc]))
 have i : ¬e<0->(us.length:Int)<=e:=by omega
 repeat' ((first | apply ji<;>intro h | apply fY<;>intro h | apply fZ<;>intro h | apply fW<;>intro h | apply fX<;>intro h)<;>(try simp only[iQb,iQc,dI,kT,aT,fp]at h)<;>(try simp[ai, *,j.r,c.r,j.idx,pD,Clear.enc]))
end
@[simp] def Vc{m f:AV}{us:List Clear}{qs:List ak}(gr:Int)(j:Sl 3 (de us) m)(c:Sl 5 (cR qs) f):ax env 63 [.agg [m,f,aI gr]]=some (aB (decide (100<(us.length:Int))||decide (100<(qs.length:Int)))):=by
 refine ay rfl (by kernel_rfl) (xF _ _ _ λg=>?_);simp[ai, *,qm,j.r,c.r];repeat' ((first | apply ji<;>intro h | apply fY<;>intro h | apply fZ<;>intro h | apply fW<;>intro h | apply fX<;>intro h)<;>(try simp only[iQb,iQc,dI,kT,aT,fp]at h)<;>(try simp[ai, *,j.r,c.r]))
@[simp] def ajS(a:UInt8)(b:UInt32)(x y z:Int):ax env 106 [.agg [a8 a,af b,aI x,aI y,aI z]]=some (.agg [a8 a,af b]):=by
 refine ay rfl (by kernel_rfl) (C8 _ _ _ λg=>?_);simp[ai, *,xc]
@[simp] def afJ(q:ak)(a:UInt8)(b:UInt32):ax env 171 [.agg [a8 q.lv,af q.cats,aI q.opens,aI q.ops,aI q.cells],.iptr 1 [.fn (.func 106) [] []] 0 0,.iptr 2 [.agg [a8 a,af b]] 0 0]=some (aB (wY a b q)):=by
 refine ay rfl (by kernel_rfl) (jf _ _ _ _ _ λg=>?_);simp[ai, *,dK,ia,cg,wY]
def uy(a:UInt8)(b:UInt32):List ak->Nat->Int
 | [],_ => -1
 | q :: s,k=>if wY a b q=true then k else uy a b s (k+1)
section
variable{f:AV}{qs:List ak}(c:Sl 5 (cR qs) f)(d:qs.length<4611686018427387904)
include c d
theorem It{a:UInt8}{b:UInt32}{Q:AV->aa->Prop} : ∀(s:List ak)(k:Nat)(i:Int)(H:aa),qs.drop k=s->k<=qs.length->i=k->(∀y H',y=aI (uy a b s k)->Q y H') ->
 bu env Tryz.f170 0 aZ [(8,aI i),(0,f),(1,.fn (.func 171) [] [.iptr 1 [.fn (.func 106) [] []] 0 0,.iptr 2 [.agg [a8 a,af b]] 0 0]),(7,aI qs.length)] H Q:=by
 intro s;induction s with
 | nil=>rintro k i H hs hk rfl hQ;obtain rfl:=drop_nil hs hk;refine cT _ _ _ _ _ _ λg=>?_;simp[ai, *,bJ];all_goals (first | exact hQ _ _ rfl | exact hQ _ _ (by simp[*]))
 | cons q s u=>
  rintro k i H hs hk rfl hQ;obtain⟨o,p,n,t⟩:=drop_cons hs;refine cT _ _ _ _ _ _ λg=>?_;simp[ai, *,bJ,c.idx,o,p,ak.enc];refine ji (λh=>?_) (λh=>?_);·all_goals (first | exact hQ _ _ rfl | exact hQ _ _ (by simp[*,uy]))
  simp[iQa ((k:Int)+1) (by omega)];exact u (k+1) _ _ n (by omega) (by simp) (λy H' e=>hQ y H' (by simp[*,uy]))
@[simp] theorem MC(a:UInt8)(b:UInt32):ax env 170 [f,.fn (.func 171) [] [.iptr 1 [.fn (.func 106) [] []] 0 0,.iptr 2 [.agg [a8 a,af b]] 0 0]]=some (aI (uy a b qs 0)):=by
 refine ay rfl (by kernel_rfl) (gV _ _ _ _ λg=>?_);simp[ai, *,cZ,c.r];exact It c d qs 0 _ _ rfl (by omega) (by simp) (λy H' e=>by simp[e])
omit c d in
theorem JC(a:UInt8)(b:UInt32) : ∀(s:List ak)(k:Nat),qs.drop k=s->(uy a b s k = -1/\s.find? (wY a b)=none) \/∃n,∃h:n<qs.length,uy a b s k=(n:Int)/\s.find? (wY a b)=some qs[n]:=by
 intro s;induction s with
 | nil=>intro k _;exact .inl ⟨rfl,rfl⟩
 | cons q s w=>
  intro k p;obtain⟨i,t,e,u⟩:=drop_cons p;unfold uy;by_cases h:wY a b q=true;·exact .inr ⟨k,i,by simp[h],by simp[h,t]⟩
  rcases w (k+1) e with ⟨g,o⟩ | ⟨n,v,g,o⟩
  ·exact .inl ⟨by simp[h,g],by simp[h,o]⟩
  exact .inr ⟨n,v,by simp[h,g],by simp[h,o]⟩
@[simp] theorem UW(a:UInt8)(b:UInt32):ax env 105 [f,.agg [a8 a,af b],.fn (.func 106) [] []]=some (match qs.find? (wY a b) with
 | some q => .tup [.agg q.enc,aB true]
 | none => .tup [.agg (ak.mk 0 0 0 0 0).enc,aB false]):=by
 refine ay rfl (by kernel_rfl) (jz _ _ _ _ _ λg=>?_);simp[ai, *,dZ,c.r,MC c d];rcases JC a b qs 0 rfl with ⟨e,h⟩ | ⟨n,i,e,h⟩
 ·rw[e,h];simp[ak.enc]
 have k : ¬(n:Int)<0:=by omega
 rw[e,h];simp[c.idx,i,k,ak.enc]
end
def rY(us:List Clear)(qs:List ak)(gr:Int)(a:UInt8)(b:UInt32):ak:=if Ap us qs gr a=0 then od qs a b else ⟨0,0,0,0,0⟩
section
variable{j i:AV}{us:List Clear}{qs:List ak}{gr:Int}(f:Sl 3 (de us) j)(d:Sl 5 (cR qs) i)(c:qs.length<4611686018427387904)(e:us.length<4611686018427387904)
include f d c e
@[simp] theorem QY(a:UInt8)(b:UInt32):ax env 44 [.agg [j,i,aI gr],.agg [a8 a,af b]]=some (.tup [.agg (rY us qs gr a b).enc,aI (Ap us qs gr a)]):=by
 refine ay rfl (by kernel_rfl) (F4 _ _ _ _ λg=>?_);simp[ai, *,Aw,f.r,d.r,My f d c e,mg];unfold rY od;refine ji (λh=>?_) (λh=>?_)
 ·have h:Ap us qs gr a≠0:=by simpa using h
  simp[h,ak.enc]
 have h:Ap us qs gr a=0:=by simpa using h
 cases k:qs.find? (wY a b) with| none=>simp[f.r,d.r,UW d c,k,ak.enc,h,mg]| some q=>simp[f.r,d.r,UW d c,k,ak.enc,h,mg]
end
end
section
attribute [local simp] aJ az aX lZ aO aE aH bT bS bg
def af6:bP env.P .eql 22 (.tmp 3) (.const (.slice none 0 0)) (some bI) (some bI)=some (aB true,[]):=by kernel_rfl
def af5:bP env.P .eql 23 (.tmp 3) (.const (.slice none 0 0)) (some bI) (some bI)=some (aB true,[]):=by kernel_rfl
def Vo{b:AV}{us:List Clear}(a:Sl 3 (de us) b)(e:us.length * 12<=140737488355328):ax env 205 [b]=some (sv b):=by
 rcases a.V8 with ⟨rfl,he⟩ | ⟨c,rfl⟩
 ·refine ay rfl (by kernel_rfl) (bR _ _ _ λg=>?_);simp[ai, *,bt,af6]
 by_cases i:us=[];·refine ay rfl (by kernel_rfl) (bR _ _ _ λg=>?_);subst i;simp[ai, *,bt]
 refine ay rfl (by kernel_rfl) (bR _ _ _ λg=>?_);simp[ai, *,bt,Gw,tM]
def Vn{b:AV}{us:List ak}(a:Sl 5 (cR us) b)(e:us.length * 32<=140737488355328):ax env 206 [b]=some (sv b):=by
 rcases a.V8 with ⟨rfl,he⟩ | ⟨c,rfl⟩
 ·refine ay rfl (by kernel_rfl) (bQ _ _ _ λg=>?_);simp[ai, *,bp,af5]
 by_cases i:us=[];·refine ay rfl (by kernel_rfl) (bQ _ _ _ λg=>?_);subst i;simp[ai, *,bp]
 refine ay rfl (by kernel_rfl) (bQ _ _ _ λg=>?_);simp[ai, *,bp,Gw,tM]
section
variable{b f:AV}{us:List Clear}{qs:List ak}{gr:Int}(a:Sl 3 (de us) b)(d:Sl 5 (cR qs) f)(h:qs.length * 32<=140737488355328)(e:us.length * 12<=140737488355328)
include a d h e
theorem QZ:ax env 160 [.agg [b,f,aI gr]]=some (.agg [sv b,sv f,aI gr]):=by
 have m:=Vo a e;have k:=Vn d h;have c:=vY a;have j:=vY d;generalize sv b=yu at *;generalize sv f=yq at *;refine ay rfl (by kernel_rfl) (Hg _ _ _ λg=>?_);rcases c with ⟨rfl,i⟩ | rfl | ⟨rfl,i⟩<;>rcases j with ⟨rfl,l⟩ | rfl | ⟨rfl,l⟩<;>simp[ai, *,Bt,a.r,d.r,au]
theorem Yf:ax env 204 [.agg [b,f,aI gr]]=some (.agg [oP 3 (de us),oP 5 (cR qs),aI gr]):=by
 refine ay rfl (by kernel_rfl) (yx _ _ _ λg=>?_);by_cases i:us=[]
 ·by_cases c:qs=[];·subst i;subst c;simp[ai, *,gP,a.r,d.r,a.kX,d.kX]
  subst i;simp[ai, *,gP,a.r,d.r,a.kX,d.kX,pe]
 by_cases c:qs=[];·subst c;simp[ai, *,gP,a.r,d.r,a.kX,d.kX,pe]
 simp[ai, *,gP,a.r,d.r,a.kX,d.kX,pe]
end
end
end Go.Proofs.YtmkmimgokagimaaGreat
