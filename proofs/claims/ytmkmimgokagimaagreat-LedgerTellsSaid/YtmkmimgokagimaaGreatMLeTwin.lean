/-
  Labels: what the functions answer. No statement of a seat is proved here.
-/
import Derived.Test.YtmkmimgokagimaaGreatMLeVc8
set_option linter.unusedVariables false
set_option linter.unusedSimpArgs false
set_option linter.unusedSectionVars false
set_option linter.unnecessarySimpa false
set_option maxRecDepth 100000
namespace Go.Proofs.YtmkmimgokagimaaGreat
open Go.Ab
attribute [local simp] aW aJ cr ld
@[simp] theorem abu(a:UInt8)(b:UInt32):aF env 76 [.agg [a8 a,au b]]=some (aI (zf a)):=by
 refine aG rfl (by kernel_rfl) (Ah _ _ _ λg=>?_)
 simp[af,ah,ad,ae,aa, *,vx]
 repeat' ((first | refine iK (λh=>?_) (λh=>?_) | refine fQ (λh=>?_) (λh=>?_) | refine fR (λh=>?_) (λh=>?_) | refine fO (λh=>?_) (λh=>?_) | refine fP (λh=>?_) (λh=>?_))<;>(try simp only[decide_eq_true_eq,decide_eq_false_iff_not,dV,kp,bh,fe]at h)<;>(try simp[af,ah,ad,ae,aa, *,zf]))
@[simp] theorem ahg(a:UInt8)(b:UInt32)(c:UInt8)(d:UInt32):aF env 47 [.agg [a8 a,au b],.agg [a8 c,au d]]=some (aB (UO a b c d)):=by
 refine aG rfl (by kernel_rfl) (Cr _ _ _ _ λg=>?_)
 simp[af,ah,ad,ae,aa, *,zr]
 repeat' ((first | refine iK (λh=>?_) (λh=>?_) | refine fQ (λh=>?_) (λh=>?_) | refine fR (λh=>?_) (λh=>?_) | refine fO (λh=>?_) (λh=>?_) | refine fP (λh=>?_) (λh=>?_))<;>(try simp only[decide_eq_true_eq,decide_eq_false_iff_not,dV,kp,bh,fe]at h)<;>(try simp[af,ah,ad,ae,aa, *,UO]))
@[simp] theorem afX(a:UInt8)(b:UInt32)(c:UInt8)(d:UInt32):aF env 169 [.agg [a8 a,au b],.agg [a8 c,au d]]=some (aB (Hq a b c d)):=by
 refine aG rfl (by kernel_rfl) (Gb _ _ _ _ λg=>?_)
 simp[af,ah,ad,ae,aa, *,AP,lP,fJ,bU]
 repeat' ((first | refine iK (λh=>?_) (λh=>?_) | refine fQ (λh=>?_) (λh=>?_) | refine fR (λh=>?_) (λh=>?_) | refine fO (λh=>?_) (λh=>?_) | refine fP (λh=>?_) (λh=>?_))<;>(try simp only[decide_eq_true_eq,decide_eq_false_iff_not,dV,kp,bh,fe]at h)<;>(try simp[af,ah,ad,ae,aa, *,Hq,lP,fJ,bU]))
@[simp] theorem Wx:aF env 185 []=some (.agg [a8 0,au 0]):=by
 refine aG rfl (by kernel_rfl) (Ag _ _ λg=>?_)
 simp[af,ah,ad,ae,aa, *,vw,lP]
@[simp] theorem aha(n m:Int):aF env 167 [aI n,aI m]=some (aB (decide (0<=n)&&decide (n<=m))):=by
 refine aG rfl (by kernel_rfl) (F6 _ _ _ _ λg=>?_)
 simp[af,ah,ad,ae,aa, *,AK]
 repeat' ((first | refine iK (λh=>?_) (λh=>?_) | refine fQ (λh=>?_) (λh=>?_) | refine fR (λh=>?_) (λh=>?_) | refine fO (λh=>?_) (λh=>?_) | refine fP (λh=>?_) (λh=>?_))<;>(try simp only[decide_eq_true_eq,decide_eq_false_iff_not,dV,kp,bh,fe]at h)<;>(try simp[af,ah,ad,ae,aa, *]))
@[simp] theorem ahe(a:UInt8)(b:UInt32):aF env 78 [.agg [a8 a,au b]]=some (aB (decide (a<=15))):=by
 refine aG rfl (by kernel_rfl) (yM _ _ _ λg=>?_)
 simp[af,ah,ad,ae,aa, *,sf]
@[simp] theorem afU(v:UInt8)(c:UInt32)(ok:Bool):aF env 168 [.agg [a8 v,au c,aB ok]]=some (aB (oB v c ok)):=by
 refine aG rfl (by kernel_rfl) (EV _ _ _ λg=>?_)
 simp[af,ah,ad,ae,aa, *,zQ,lP,fJ,bU]
 repeat' ((first | refine iK (λh=>?_) (λh=>?_) | refine fQ (λh=>?_) (λh=>?_) | refine fR (λh=>?_) (λh=>?_) | refine fO (λh=>?_) (λh=>?_) | refine fP (λh=>?_) (λh=>?_))<;>(try simp only[decide_eq_true_eq,decide_eq_false_iff_not,dV,kp,bh,fe]at h)<;>(try simp[af,ah,ad,ae,aa, *,oB,lP,fJ,bU]))
@[simp] theorem X9(v:UInt8)(c:UInt32)(ok:Bool):aF env 178 [.agg [a8 v,au c,aB ok]]=some (aB (oB v c ok)):=by
 refine aG rfl (by kernel_rfl) (uj _ _ _ λg=>?_)
 simp[af,ah,ad,ae,aa, *,nL,lP,fJ,bU]
 repeat' ((first | refine iK (λh=>?_) (λh=>?_) | refine fQ (λh=>?_) (λh=>?_) | refine fR (λh=>?_) (λh=>?_) | refine fO (λh=>?_) (λh=>?_) | refine fP (λh=>?_) (λh=>?_))<;>(try simp only[decide_eq_true_eq,decide_eq_false_iff_not,dV,kp,bh,fe]at h)<;>(try simp[af,ah,ad,ae,aa, *,oB,lP,fJ,bU]))
end Go.Proofs.YtmkmimgokagimaaGreat
namespace Go.Proofs.YtmkmimgokagimaaGreat
open Go.Ab
attribute [local simp] aW aJ cr ld
def wm(b:Bool):List Bool->Nat->Int
 | [],_ => -1
 | x :: l,k=>if b=x then k else wm b l (k+1)
theorem Xd(b:Bool) : ∀(l:List Bool)(k:Nat),(0<=wm b l k↔l.contains b=true):=by
 intro l
 induction l with
 | nil=>intro k;simp[wm]
 | cons x l a=>
  intro k
  unfold wm
  split
  ·rename_i e;subst e;simp
  ·rename_i e
   rw[a (k+1)]
   have:(b == x)=false:=by cases b<;>cases x<;>simp_all
   simp only[List.contains_cons,this,Dt]
section
variable{x0:AV}{l:List Bool}(hx:Sl 1 (aeH l) x0)(hl:l.length<4611686018427387904)
include hx hl
theorem OV{b:Bool}{Q:AV->ai->Prop} : ∀(s:List Bool)(k:Nat)(i:Int)(H:ai),l.drop k=s->k<=l.length->i=k->(∀y H',y=aI (wm b s k)->Q y H') ->
 bN env Tryz.f227 0 fh [(8,aI i),(0,x0),(1,aB b),(7,aI l.length)] H Q:=by
 intro s
 induction s with
 | nil=>
  rintro k i H hs hk rfl h
  obtain rfl:=drop_nil hs hk
  refine mf _ _ _ _ _ _ λg=>?_
  simp[af,ah,ad,ae,aa, *,iU]
  exact h _ H rfl
 | cons a s f=>
  rintro k i H hs hk rfl h
  obtain⟨d,j,c,m⟩:=drop_cons hs
  refine mf _ _ _ _ _ _ λg=>?_
  simp[af,ah,ad,ae,aa, *,iU,hx.idx,d,j,IntWalk.i64_in ((k:Int)+1) (by omega)]
  refine aaI (λe=>?_) (λe=>?_)
  ·exact h _ _ (by simp[wm,e])
  ·simp[IntWalk.i64_in ((k:Int)+1) (by omega)]
   exact f (k+1) _ _ c (by omega) (by omega) (λy H' n=>h y H' (by simp[wm,e,n]))
@[simp] theorem Wy(b:Bool):aF env 227 [x0,aB b]=some (aI (wm b l 0)):=by
 refine aG rfl (by kernel_rfl) (tQ _ _ _ _ λg=>?_)
 simp[af,ah,ad,ae,aa, *,ni,hx.len]
 exact OV hx hl l 0 _ _ rfl (by omega) (by simp) (λy H' e=>by simp[e])
@[simp] theorem Oi(b:Bool):aF env 212 [x0,aB b]=some (aB (l.contains b)):=by
 refine aG rfl (by kernel_rfl) (sk _ _ _ _ λg=>?_)
 have:=Xd b l 0
 simp[af,ah,ad,ae,aa, *,mb,hx.r,Wy hx hl,this]
@[simp] theorem Tf:aF env 166 [x0]=some (aB (l.all id)):=by
 refine aG rfl (by kernel_rfl) (HE _ _ _ λg=>?_)
 have:(!l.contains false)=l.all id:=by
  clear hx hl
  induction l with
  | nil=>rfl
  | cons b l a=>cases b<;>simp_all
 simp[af,ah,ad,ae,aa, *,BG,hx.r,Oi hx hl,<-this]
end
@[simp] theorem ahc(a b c:Bool):aF env 166 [.bW 1 [aB a,aB b,aB c] (some 3)]=some (aB (a&&(b&&c))):=by
 have:=Tf (l:=[a,b,c]) (x0 := .bW 1 [aB a,aB b,aB c] (some 3)) (.inr ⟨_,rfl,by simp⟩) (by simp);simpa using this
@[simp] theorem ahb(a b c d e:Bool):aF env 166 [.bW 1 [aB a,aB b,aB c,aB d,aB e] (some 5)]=some (aB (a&&(b&&(c&&(d&&e))))):=by
 have:=Tf (l:=[a,b,c,d,e]) (x0 := .bW 1 [aB a,aB b,aB c,aB d,aB e] (some 5)) (.inr ⟨_,rfl,by simp⟩) (by simp);simpa using this
theorem M4{d:AV}{Q:AV->ai->Prop}{l:List ax}(hx:Sl 5 (bS l) d)(hl:l.length<4611686018427387904) : ∀(s:List ax)(k:Nat)(i n:Int)(H:ai),l.drop k=s->k<=l.length->i=k ->
 (∀y H',y=aI (rI n s)->Q y H') ->
 bN env Tryz.f103 0 mS [(11,aI i),(3,aI n),(9,d),(10,aI l.length)] H Q:=by
 intro s
 induction s with
 | nil=>
  rintro k i n H hs hk rfl h
  obtain rfl:=drop_nil hs hk
  refine uS _ _ _ _ _ _ λg=>?_
  simp[af,ah,ad,ae,aa, *,qe]
  exact h _ H rfl
 | cons a s j=>
  rintro k i n H hs hk rfl h
  obtain⟨c,e,b,f⟩:=drop_cons hs
  refine uS _ _ _ _ _ _ λg=>?_
  simp[af,ah,ad,ae,aa, *,qe,hx.idx,c,e,ax.enc,IntWalk.i64_in ((k:Int)+1) (by omega)]
  exact j (k+1) _ _ _ b (by omega) (by omega) h
section
variable{xu xq:AV}{us:List Clear}{qs:List ax}{gr:Int}(hu:Sl 3 (bZ us) xu)(hq:Sl 5 (bS qs) xq)(hql:qs.length<4611686018427387904)(hul:us.length<4611686018427387904)
include hu hq hql
@[simp] theorem QQ:aF env 103 [.agg [xu,xq,aI gr]]=some (aI (rI gr qs)):=by
 refine aG rfl (by kernel_rfl) (DC _ _ _ λg=>?_)
 simp[af,ah,ad,ae,aa, *,yl,hu.r,hq.r]
 exact M4 hq hql qs 0 _ _ _ rfl (by omega) rfl (λy H' e=>by simp[e])
theorem XJ{b:AV}{r1:Ref}{c:Bool}{Q:AV->ai->Prop}{l:List ax}(hx:Sl 5 (bS l) b)(hl:l.length<4611686018427387904) : ∀(s:List ax)(k:Nat)(i n:Int)(H:ai),l.drop k=s->k<=l.length->i=k ->
 Fr H->H.get r1=some ⟨3,[.agg [xu,xq,aI gr]],false,false⟩ ->
 (∀y H',y=aI (bad (c&&(!decide (2048<rI gr qs) && !decide (8192<cellsOf n s))))->Q y H') ->
 bN env Tryz.f102 0 mT [(87,aI i),(8,aI n),(85,b),(1,.ptr r1 0 0),(3,aB c),(86,aI l.length)] H Q:=by
 intro s
 induction s with
 | nil=>
  rintro k i n H hs hk rfl hF hB h
  obtain rfl:=drop_nil hs hk
  refine uT _ _ _ _ _ _ _ _ λg=>?_
  have m:=QQ (gr:=gr) hu hq hql
  simp[af,ah,ad,ae,aa, *,qf]
  repeat' ((first | refine iK (λh=>?_) (λh=>?_) | refine fQ (λh=>?_) (λh=>?_) | refine fR (λh=>?_) (λh=>?_) | refine fO (λh=>?_) (λh=>?_) | refine fP (λh=>?_) (λh=>?_))<;>(try simp only[decide_eq_true_eq,decide_eq_false_iff_not,dV,kp,bh,fe]at h)<;>(try simp[af,ah,ad,ae,aa, *,hu.r,hq.r,m,bad,cellsOf]))
 | cons a s o=>
  rintro k i n H hs hk rfl hF hB h
  obtain⟨e,f,d,j⟩:=drop_cons hs
  refine uT _ _ _ _ _ _ _ _ λg=>?_
  simp[af,ah,ad,ae,aa, *,qf,hx.idx,e,f,ax.enc,IntWalk.i64_in ((k:Int)+1) (by omega)]
  exact o (k+1) _ _ _ d (by omega) (by omega) (by simp(maxDischargeDepth:=12) [aq,aj,Fr.nil,aw,af,ah,ad,ae,ao,ak,aa, *]) (by simp(maxDischargeDepth:=12) [aq,aj,Fr.nil,aw,af,ah,ad,ae,ao,ak,aa, *]) h
def VS(a:Bool)(p:Option ax):List ax->Bool
 | []=>a
 | q :: s=>VS (a&&(DN q&&(match p with | none=>true | some p=>CH p q))) (some q) s
theorem aaC{r1:Ref}{Q:AV->ai->Prop} : ∀(s:List ax)(k:Nat)(i:Int)(b:Bool)(H:ai),qs.drop k=s->k<=qs.length->i=k ->
 Fr H->H.get r1=some ⟨3,[.agg [xu,xq,aI gr]],false,false⟩ ->
 (∀y H',y=aI (bad (VS b (if k=0 then none else qs[k - 1]?) s&&(!decide (2048<rI gr qs) && !decide (8192<cellsOf 0 (qs.take 8)))))->Q y H') ->
 bN env Tryz.f102 0 nF [(40,aI i),(1,.ptr r1 0 0),(3,aB b),(38,xq),(39,aI qs.length)] H Q:=by
 intro s
 induction s with
 | nil=>
  rintro k i b H m hk rfl hF hB h
  obtain rfl:=drop_nil m hk
  refine vT _ _ _ _ _ _ _ λg=>?_
  have o:(if (8:Int)<qs.length then (8:Int) else qs.length)=((min 8 qs.length:Nat):Int):=by split<;>omega
  have m:=Gt (P:=env.P) (t:=23) (z:=5) (by simp) H.get hq (n:=((min 8 qs.length:Nat):Int)) (by omega) (by simp;omega)
  obtain⟨y,I,v⟩:=m
  have J:(bS qs).take (min 8 qs.length)=bS (qs.take 8):=by
   rw[<-Jo];congr 1
   rcases Nat.le_total 8 qs.length with h | h
   ·rw[FH h]
   ·rw[Nu h,gh (dc _),gh h]
  rw[Nx,J]at v
  simp[af,ah,ad,ae,aa, *,jE,hB,hq.len,o,I,v.len]
  have w:(qs.take 8).length=min 8 qs.length:=tv
  rw[<-w]
  exact XJ hu hq hql v (by omega) _ 0 0 0 H rfl (by omega) rfl hF hB (λy H' e=>h y H' (by simpa [VS] using e))
 | cons a s G=>
  rintro k i b H m hk rfl hF hB h
  obtain⟨f,u,d,c⟩:=drop_cons m
  have p:=G (k+1)
  refine vT _ _ _ _ _ _ _ λg=>?_
  cases k with
  | zero=>
   have j:IntKind.i64.wrap 1=1:=rfl
   cases b
   ·simp[af,ah,ad,ae,aa, *,jE,hq.idx,f,u,ax.enc,j]
    exact p _ _ _ d (by omega) rfl (by simp(maxDischargeDepth:=12) [aq,aj,Fr.nil,aw,af,ah,ad,ae,ao,ak,aa, *]) (by simp(maxDischargeDepth:=12) [aq,aj,Fr.nil,aw,af,ah,ad,ae,ao,ak,aa, *]) (λy H' e=>h y H' (by simpa [VS,c] using e))
   ·simp[af,ah,ad,ae,aa, *,jE,hq.idx,f,u,ax.enc,j]
    exact p _ _ _ d (by omega) rfl (by simp(maxDischargeDepth:=12) [aq,aj,Fr.nil,aw,af,ah,ad,ae,ao,ak,aa, *]) (by simp(maxDischargeDepth:=12) [aq,aj,Fr.nil,aw,af,ah,ad,ae,ao,ak,aa, *]) (λy H' e=>h y H' (by simpa [VS,c,DN] using e))
  | succ k=>
   have j:IntKind.i64.wrap ((k:Int)+1+1)=(k:Int)+1+1:=IntWalk.i64_in _ (by omega)
   have C:IntKind.i64.wrap (k:Int)=k:=IntWalk.i64_in _ (by omega)
   have D : ¬(k:Int)<0:=by omega
   have F : ¬(k:Int)+1=0:=by omega
   have x:k<qs.length:=by omega
   have E:(k:Int)+1<qs.length:=by omega
   have A:(0:Int)<=k+1:=by omega
   cases b
   ·simp[af,ah,ad,ae,aa, *,jE,hq.idx,f,u,ax.enc,j,C,D,F,x,E,A]
    exact p _ _ _ d (by omega) (by simp) (by simp(maxDischargeDepth:=12) [aq,aj,Fr.nil,aw,af,ah,ad,ae,ao,ak,aa, *]) (by simp(maxDischargeDepth:=12) [aq,aj,Fr.nil,aw,af,ah,ad,ae,ao,ak,aa, *]) (λy H' e=>h y H' (by simpa [VS,c] using e))
   ·simp[af,ah,ad,ae,aa, *,jE,hq.idx,f,u,ax.enc,j,C,D,F,x,E,A,hB,af hF (q:=r1)]
    exact p _ _ _ d (by omega) (by simp) (by simp(maxDischargeDepth:=12) [aq,aj,Fr.nil,aw,af,ah,ad,ae,ao,ak,aa, *]) (by simp(maxDischargeDepth:=12) [aq,aj,Fr.nil,aw,af,ah,ad,ae,ao,ak,aa, *]) (λy H' e=>h y H' (by simpa [VS,c,DN,CH,fc x,zE] using e))
omit hu hq hql in
theorem Xg : ∀(s:List ax)(a:Bool)(p:Option ax),VS a p s=(a&&yW p s):=by
 intro s
 induction s with
 | nil=>intro a p;simp[VS,yW]
 | cons q s b=>intro a p;cases p<;>simp[VS,yW,b,zE]
include hul
theorem aaD{r1:Ref}{Q:AV->ai->Prop} : ∀(s:List Clear)(k:Nat)(i:Int)(b:Bool)(H:ai),us.drop k=s->k<=us.length->i=k ->
 Fr H->H.get r1=some ⟨3,[.agg [xu,xq,aI gr]],false,false⟩ ->
 (∀y H',y=aI (bad (((b&&s.all λc=>oB c.lv c.cats c.ok)&&yW none qs)&&(!decide (2048<rI gr qs) && !decide (8192<cellsOf 0 (qs.take 8)))))->Q y H') ->
 bN env Tryz.f102 0 nG [(27,aI i),(3,aB b),(25,xu),(1,.ptr r1 0 0),(26,aI us.length)] H Q:=by
 intro s
 induction s with
 | nil=>
  rintro k i b H hs hk rfl hF hB hQ
  obtain rfl:=drop_nil hs hk
  refine vU _ _ _ _ _ _ _ λg=>?_
  simp[af,ah,ad,ae,aa, *,rR,hB,hq.len]
  exact aaC hu hq hql qs 0 0 b H rfl (by omega) rfl hF hB (λy H' e=>hQ y H' (by simpa [Xg] using e))
 | cons a s m=>
  rintro k i b H hs hk rfl hF hB hQ
  obtain⟨f,j,d,n⟩:=drop_cons hs
  refine vU _ _ _ _ _ _ _ λg=>?_
  simp[af,ah,ad,ae,aa, *,rR,hu.idx,f,j,Clear.enc]
  repeat' ((first | refine iK (λh=>?_) (λh=>?_) | refine fQ (λh=>?_) (λh=>?_) | refine fR (λh=>?_) (λh=>?_) | refine fO (λh=>?_) (λh=>?_) | refine fP (λh=>?_) (λh=>?_))<;>(try simp only[decide_eq_true_eq,decide_eq_false_iff_not,dV,kp,bh,fe]at h)<;>(try simp[af,ah,ad,ae,aa, *,hu.idx,f,j,Clear.enc]))
  ·simp[IntWalk.i64_in ((k:Int)+1) (by omega)]
   exact m (k+1) _ _ _ d (by omega) (by simp) (by simp(maxDischargeDepth:=12) [aq,aj,Fr.nil,aw,af,ah,ad,ae,ao,ak,aa, *]) (by simp(maxDischargeDepth:=12) [aq,aj,Fr.nil,aw,af,ah,ad,ae,ao,ak,aa, *]) (λy H' e=>hQ y H' (by simp[*,zE]))
  ·simp[IntWalk.i64_in ((k:Int)+1) (by omega)]
   exact m (k+1) _ _ _ d (by omega) (by simp) (by simp(maxDischargeDepth:=12) [aq,aj,Fr.nil,aw,af,ah,ad,ae,ao,ak,aa, *]) (by simp(maxDischargeDepth:=12) [aq,aj,Fr.nil,aw,af,ah,ad,ae,ao,ak,aa, *]) (λy H' e=>hQ y H' (by simp[*,zE]))
@[simp] theorem CB:aF env 102 [.agg [xu,xq,aI gr]]=some (aI (bad (tF us qs gr))):=by
 refine aG rfl (by kernel_rfl) (EY _ _ _ λg=>?_)
 simp[af,ah,ad,ae,aa, *,zT,hu.r,hq.r]
 refine aaD (gr:=gr) hu hq hql hul us 0 _ _ _ rfl (by omega) rfl ?_ ?_ ?_
 ·simp(maxDischargeDepth:=12) [aq,aj,Fr.nil,aw,af,ah,ad,ae,ao,ak,aa, *]
 ·simp(maxDischargeDepth:=12) [aq,aj,Fr.nil,aw,af,ah,ad,ae,ao,ak,aa, *]
 rintro y H' rfl
 simp only[Xf (f:=17) (by rfl),aW,Y4,dW]
 rw[tF,adX,adX]
 have e (n:Nat):decide ((n:Int)<=8)=decide (n<=8):=by congr 1;exact propext (by omega)
 simp only[e,zE]
@[simp] theorem Lm(a:UInt8)(b:UInt32):aF env 104 [.agg [xu,xq,aI gr],.agg [a8 a,au b]]=some (aI (zN us qs gr a)):=by
 refine aG rfl (by kernel_rfl) (EW _ _ _ _ λg=>?_)
 simp[af,ah,ad,ae,aa, *,zR,hu.r,hq.r,CB hu hq hql hul,zN]
end
end Go.Proofs.YtmkmimgokagimaaGreat
namespace Go.Proofs.YtmkmimgokagimaaGreat
open Go.Ab
attribute [local simp] aW aJ cr ld
section
variable{xu xq:AV}{us:List Clear}{qs:List ax}{gr:Int}(hu:Sl 3 (bZ us) xu)(hq:Sl 5 (bS qs) xq)(hql:qs.length<4611686018427387904)(hul:us.length<4611686018427387904)
include hu hq hql hul
@[simp] theorem Zk(c:Int)(a:UInt8)(b:UInt32):aF env 174 [.agg [xu,xq,aI gr],aI c,.agg [a8 a,au b]]=some (.tup [aB (decide (zN us qs gr a=0)&&pa us c a b),aI (zN us qs gr a)]):=by
 refine aG rfl (by kernel_rfl) (HF _ _ _ _ _ λg=>?_)
 simp[af,ah,ad,ae,aa, *,BH,hu.r,hq.r,Lm hu hq hql hul]
 by_cases i:0<=c/\c<us.length
 ·obtain⟨n,rfl⟩:=KN i.1
  have e:n<us.length:=by omega
  have d : ¬(n:Int)<0:=by omega
  have f : ¬(us.length:Int)<=n:=by omega
  repeat' ((first | refine iK (λh=>?_) (λh=>?_) | refine fQ (λh=>?_) (λh=>?_) | refine fR (λh=>?_) (λh=>?_) | refine fO (λh=>?_) (λh=>?_) | refine fP (λh=>?_) (λh=>?_))<;>(try simp only[decide_eq_true_eq,decide_eq_false_iff_not,dV,kp,bh,fe]at h)<;>(try simp[af,ah,ad,ae,aa, *,hu.r,hq.r,hu.idx,e,d,f,pa,Clear.enc]))
 ·have d : ¬c<0->(us.length:Int)<=c:=by omega
  repeat' ((first | refine iK (λh=>?_) (λh=>?_) | refine fQ (λh=>?_) (λh=>?_) | refine fR (λh=>?_) (λh=>?_) | refine fO (λh=>?_) (λh=>?_) | refine fP (λh=>?_) (λh=>?_))<;>(try simp only[decide_eq_true_eq,decide_eq_false_iff_not,dV,kp,bh,fe]at h)<;>(try simp[af,ah,ad,ae,aa, *,hu.r,hq.r,hu.idx,pa,Clear.enc]))
end
@[simp] theorem Ts{xu xq:AV}{us:List Clear}{qs:List ax}(gr:Int)(hu:Sl 3 (bZ us) xu)(hq:Sl 5 (bS qs) xq):aF env 63 [.agg [xu,xq,aI gr]]=some (aB (decide (100<(us.length:Int))||decide (100<(qs.length:Int)))):=by
 refine aG rfl (by kernel_rfl) (wQ _ _ _ λg=>?_)
 simp[af,ah,ad,ae,aa, *,pV,hu.r,hq.r]
 repeat' ((first | refine iK (λh=>?_) (λh=>?_) | refine fQ (λh=>?_) (λh=>?_) | refine fR (λh=>?_) (λh=>?_) | refine fO (λh=>?_) (λh=>?_) | refine fP (λh=>?_) (λh=>?_))<;>(try simp only[decide_eq_true_eq,decide_eq_false_iff_not,dV,kp,bh,fe]at h)<;>(try simp[af,ah,ad,ae,aa, *,hu.r,hq.r]))
@[simp] theorem ahU(a:UInt8)(b:UInt32)(x y z:Int):aF env 106 [.agg [a8 a,au b,aI x,aI y,aI z]]=some (.agg [a8 a,au b]):=by
 refine aG rfl (by kernel_rfl) (Ck _ _ _ λg=>?_)
 simp[af,ah,ad,ae,aa, *,wy]
@[simp] theorem adB(q:ax)(a:UInt8)(b:UInt32):aF env 171 [.agg [a8 q.lv,au q.cats,aI q.opens,aI q.ops,aI q.cells],.iptr 1 [.fn (.func 106) [] []] 0 0,.iptr 2 [.agg [a8 a,au b]] 0 0]=some (aB (wi a b q)):=by
 refine aG rfl (by kernel_rfl) (iH _ _ _ _ _ λg=>?_)
 simp[af,ah,ad,ae,aa, *,dG,fJ,bU,wi]
def tM(a:UInt8)(b:UInt32):List ax->Nat->Int
 | [],_ => -1
 | q :: s,k=>if wi a b q=true then k else tM a b s (k+1)
section
variable{xq:AV}{qs:List ax}(hq:Sl 5 (bS qs) xq)(hql:qs.length<4611686018427387904)
include hq hql
theorem GY{a:UInt8}{b:UInt32}{Q:AV->ai->Prop} : ∀(s:List ax)(k:Nat)(i:Int)(H:ai),qs.drop k=s->k<=qs.length->i=k->(∀y H',y=aI (tM a b s k)->Q y H') ->
 bN env Tryz.f170 0 bo [(8,aI i),(0,xq),(1,.fn (.func 171) [] [.iptr 1 [.fn (.func 106) [] []] 0 0,.iptr 2 [.agg [a8 a,au b]] 0 0]),(7,aI qs.length)] H Q:=by
 intro s
 induction s with
 | nil=>
  rintro k i H hs hk rfl hQ
  obtain rfl:=drop_nil hs hk
  refine cQ _ _ _ _ _ _ λg=>?_
  simp[af,ah,ad,ae,aa, *,bQ]
  all_goals (first | exact hQ _ _ rfl | exact hQ _ _ (by simp[*]))
 | cons q s f=>
  rintro k i H hs hk rfl hQ
  obtain⟨d,j,c,l⟩:=drop_cons hs
  refine cQ _ _ _ _ _ _ λg=>?_
  simp[af,ah,ad,ae,aa, *,bQ,hq.idx,d,j,ax.enc]
  refine iK (λh=>?_) (λh=>?_)
  ·all_goals (first | exact hQ _ _ rfl | exact hQ _ _ (by simp[*,tM]))
  simp[IntWalk.i64_in ((k:Int)+1) (by omega)]
  exact f (k+1) _ _ c (by omega) (by simp) (λy H' e=>hQ y H' (by simp[*,tM]))
@[simp] theorem Lt(a:UInt8)(b:UInt32):aF env 170 [xq,.fn (.func 171) [] [.iptr 1 [.fn (.func 106) [] []] 0 0,.iptr 2 [.agg [a8 a,au b]] 0 0]]=some (aI (tM a b qs 0)):=by
 refine aG rfl (by kernel_rfl) (gB _ _ _ _ λg=>?_)
 simp[af,ah,ad,ae,aa, *,cZ,hq.r]
 exact GY hq hql qs 0 _ _ rfl (by omega) (by simp) (λy H' e=>by simp[e])
omit hq hql in
theorem Ia(a:UInt8)(b:UInt32) : ∀(s:List ax)(k:Nat),qs.drop k=s->(tM a b s k = -1/\s.find? (wi a b)=none) \/∃n,∃h:n<qs.length,tM a b s k=(n:Int)/\s.find? (wi a b)=some qs[n]:=by
 intro s
 induction s with
 | nil=>intro k _;exact .inl ⟨rfl,rfl⟩
 | cons q s g=>
  intro k m
  obtain⟨d,i,c,j⟩:=drop_cons m
  unfold tM
  by_cases h:wi a b q=true
  ·exact .inr ⟨k,d,by simp[h],by simp[h,i]⟩
  ·rcases g (k+1) c with ⟨e,f⟩ | ⟨n,l,e,f⟩
   ·exact .inl ⟨by simp[h,e],by simp[h,f]⟩
   ·exact .inr ⟨n,l,by simp[h,e],by simp[h,f]⟩
@[simp] theorem Tc(a:UInt8)(b:UInt32):aF env 105 [xq,.agg [a8 a,au b],.fn (.func 106) [] []]=some (match qs.find? (wi a b) with
 | some q => .tup [.agg q.enc,aB true]
 | none => .tup [.agg (ax.mk 0 0 0 0 0).enc,aB false]):=by
 refine aG rfl (by kernel_rfl) (jb _ _ _ _ _ λg=>?_)
 simp[af,ah,ad,ae,aa, *,dZ,hq.r,Lt hq hql]
 rcases Ia a b qs 0 rfl with ⟨c,d⟩ | ⟨n,f,c,d⟩
 ·rw[c,d]
  simp[ax.enc]
 ·have e : ¬(n:Int)<0:=by omega
  rw[c,d]
  simp[hq.idx,f,e,ax.enc]
end
end Go.Proofs.YtmkmimgokagimaaGreat
namespace Go.Proofs.YtmkmimgokagimaaGreat
open Go.Ab
attribute [local simp] aW aJ cr ld
def rf(us:List Clear)(qs:List ax)(gr:Int)(a:UInt8)(b:UInt32):ax:=if zN us qs gr a=0 then nE qs a b else ⟨0,0,0,0,0⟩
section
variable{xu xq:AV}{us:List Clear}{qs:List ax}{gr:Int}(hu:Sl 3 (bZ us) xu)(hq:Sl 5 (bS qs) xq)(hql:qs.length<4611686018427387904)(hul:us.length<4611686018427387904)
include hu hq hql hul
@[simp] theorem PM(a:UInt8)(b:UInt32):aF env 44 [.agg [xu,xq,aI gr],.agg [a8 a,au b]]=some (.tup [.agg (rf us qs gr a b).enc,aI (zN us qs gr a)]):=by
 refine aG rfl (by kernel_rfl) (EX _ _ _ _ λg=>?_)
 simp[af,ah,ad,ae,aa, *,zS,hu.r,hq.r,Lm hu hq hql hul,lP]
 unfold rf nE
 refine iK (λh=>?_) (λh=>?_)
 ·have h:zN us qs gr a≠0:=by simpa using h
  simp[h,ax.enc]
 ·have h:zN us qs gr a=0:=by simpa using h
  cases c:qs.find? (wi a b) with
  | none=>simp[hu.r,hq.r,Tc hq hql,c,ax.enc,h,lP]
  | some q=>simp[hu.r,hq.r,Tc hq hql,c,ax.enc,h,lP]
end
end Go.Proofs.YtmkmimgokagimaaGreat
namespace Go.Proofs.YtmkmimgokagimaaGreat
open Go.Ab
attribute [local simp] aW aJ cr ld bf aQ aT cz cw bI
theorem adW:cf env.P .eql 22 (.tmp 3) (.const (.slice none 0 0)) (some ct) (some ct)=some (aB true,[]):=by kernel_rfl
theorem adV:cf env.P .eql 23 (.tmp 3) (.const (.slice none 0 0)) (some ct) (some ct)=some (aB true,[]):=by kernel_rfl
theorem TF{xu:AV}{us:List Clear}(hu:Sl 3 (bZ us) xu)(hul:us.length * 12<=140737488355328):aF env 205 [xu]=some (rH xu):=by
 rcases hu.Ut with ⟨rfl,he⟩ | ⟨c,rfl⟩
 ·refine aG rfl (by kernel_rfl) (cm _ _ _ λg=>?_)
  simp[af,ah,ad,ae,aa, *,bE,adW]
 ·by_cases a:us=[]
  ·refine aG rfl (by kernel_rfl) (cm _ _ _ λg=>?_)
   subst a
   simp[af,ah,ad,ae,aa, *,bE]
  ·refine aG rfl (by kernel_rfl) (cm _ _ _ λg=>?_)
   simp[af,ah,ad,ae,aa, *,bE,Fu,sW]
theorem TE{xu:AV}{us:List ax}(hu:Sl 5 (bS us) xu)(hul:us.length * 32<=140737488355328):aF env 206 [xu]=some (rH xu):=by
 rcases hu.Ut with ⟨rfl,he⟩ | ⟨c,rfl⟩
 ·refine aG rfl (by kernel_rfl) (ck _ _ _ λg=>?_)
  simp[af,ah,ad,ae,aa, *,bD,adV]
 ·by_cases a:us=[]
  ·refine aG rfl (by kernel_rfl) (ck _ _ _ λg=>?_)
   subst a
   simp[af,ah,ad,ae,aa, *,bD]
  ·refine aG rfl (by kernel_rfl) (ck _ _ _ λg=>?_)
   simp[af,ah,ad,ae,aa, *,bD,Fu,sW]
section
variable{xu xq:AV}{us:List Clear}{qs:List ax}{gr:Int}(hu:Sl 3 (bZ us) xu)(hq:Sl 5 (bS qs) xq)(hql:qs.length * 32<=140737488355328)(hul:us.length * 12<=140737488355328)
include hu hq hql hul
theorem PN:aF env 160 [.agg [xu,xq,aI gr]]=some (.agg [rH xu,rH xq,aI gr]):=by
 have d:=TF hu hul
 have f:=TE hq hql
 have e:=vn hu
 have a:=vn hq
 generalize rH xu=yu at *
 generalize rH xq=yq at *
 refine aG rfl (by kernel_rfl) (F7 _ _ _ λg=>?_)
 rcases e with ⟨rfl,b⟩ | rfl | ⟨rfl,b⟩<;>rcases a with ⟨rfl,c⟩ | rfl | ⟨rfl,c⟩<;>simp[af,ah,ad,ae,aa, *,AL,hu.r,hq.r,aH]
theorem Ws:aF env 204 [.agg [xu,xq,aI gr]]=some (.agg [WW 3 (bZ us),WW 5 (bS qs),aI gr]):=by
 refine aG rfl (by kernel_rfl) (xG _ _ _ λg=>?_)
 by_cases b:us=[]
 ·by_cases a:qs=[]
  ·subst b;subst a
   simp[af,ah,ad,ae,aa, *,gy,hu.r,hq.r,hu.kR,hq.kR]
  ·subst b
   simp[af,ah,ad,ae,aa, *,gy,hu.r,hq.r,hu.kR,hq.kR,CM]
 ·by_cases a:qs=[]
  ·subst a
   simp[af,ah,ad,ae,aa, *,gy,hu.r,hq.r,hu.kR,hq.kR,CM]
  ·simp[af,ah,ad,ae,aa, *,gy,hu.r,hq.r,hu.kR,hq.kR,CM]
end
end Go.Proofs.YtmkmimgokagimaaGreat
