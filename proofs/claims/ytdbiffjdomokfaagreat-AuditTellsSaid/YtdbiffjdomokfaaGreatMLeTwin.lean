/-
  Labels: what the functions answer. No statement of a seat is proved here.
-/
import Derived.Test.YtdbiffjdomokfaaGreatMAuVc8
set_option linter.unusedVariables false
set_option linter.unusedSimpArgs false
set_option linter.unusedSectionVars false
set_option linter.unnecessarySimpa false
set_option maxRecDepth 100000
namespace Go.Proofs.YtdbiffjdomokfaaGreat
open Go.Ab
attribute [local simp] aU aK cz lT
@[simp] theorem Q4(a:UInt8)(b:UInt32):aF env 33 [.agg [a8 a,aw b]]=some (aI (y3 a)):=by
 refine aH rfl (by kernel_rfl) (z8 _ _ _ λg=>?_)
 simp[af,ah,ad,ae,aa, *,vm]
 repeat' ((first | refine gU (λh=>?_) (λh=>?_) | refine fM (λh=>?_) (λh=>?_) | refine fN (λh=>?_) (λh=>?_) | refine fK (λh=>?_) (λh=>?_) | refine fL (λh=>?_) (λh=>?_))<;>(try simp only[decide_eq_true_eq,decide_eq_false_iff_not,dQ,ke,aZ,ff]at h)<;>(try simp[af,ah,ad,ae,aa, *,y3]))
@[simp] theorem Gu(a:UInt8)(b:UInt32)(c:UInt8)(d:UInt32):aF env 20 [.agg [a8 a,aw b],.agg [a8 c,aw d]]=some (aB (UH a b c d)):=by
 refine aH rfl (by kernel_rfl) (Cl _ _ _ _ λg=>?_)
 simp[af,ah,ad,ae,aa, *,zi]
 repeat' ((first | refine gU (λh=>?_) (λh=>?_) | refine fM (λh=>?_) (λh=>?_) | refine fN (λh=>?_) (λh=>?_) | refine fK (λh=>?_) (λh=>?_) | refine fL (λh=>?_) (λh=>?_))<;>(try simp only[decide_eq_true_eq,decide_eq_false_iff_not,dQ,ke,aZ,ff]at h)<;>(try simp[af,ah,ad,ae,aa, *,UH]))
@[simp] theorem agq(a:UInt8)(b:UInt32)(c:UInt8)(d:UInt32):aF env 67 [.agg [a8 a,aw b],.agg [a8 c,aw d]]=some (aB (Ho a b c d)):=by
 refine aH rfl (by kernel_rfl) (F3 _ _ _ _ λg=>?_)
 simp[af,ah,ad,ae,aa, *,AJ,lE,gk,ca]
 repeat' ((first | refine gU (λh=>?_) (λh=>?_) | refine fM (λh=>?_) (λh=>?_) | refine fN (λh=>?_) (λh=>?_) | refine fK (λh=>?_) (λh=>?_) | refine fL (λh=>?_) (λh=>?_))<;>(try simp only[decide_eq_true_eq,decide_eq_false_iff_not,dQ,ke,aZ,ff]at h)<;>(try simp[af,ah,ad,ae,aa, *,Ho,lE,gk,ca]))
@[simp] theorem Wr:aF env 91 []=some (.agg [a8 0,aw 0]):=by
 refine aH rfl (by kernel_rfl) (z7 _ _ λg=>?_)
 simp[af,ah,ad,ae,aa, *,vl,lE]
@[simp] theorem ahw(n m:Int):aF env 65 [aI n,aI m]=some (aB (decide (0<=n)&&decide (n<=m))):=by
 refine aH rfl (by kernel_rfl) (F0 _ _ _ _ λg=>?_)
 simp[af,ah,ad,ae,aa, *,AG]
 repeat' ((first | refine gU (λh=>?_) (λh=>?_) | refine fM (λh=>?_) (λh=>?_) | refine fN (λh=>?_) (λh=>?_) | refine fK (λh=>?_) (λh=>?_) | refine fL (λh=>?_) (λh=>?_))<;>(try simp only[decide_eq_true_eq,decide_eq_false_iff_not,dQ,ke,aZ,ff]at h)<;>(try simp[af,ah,ad,ae,aa, *]))
@[simp] theorem ahA(a:UInt8)(b:UInt32):aF env 28 [.agg [a8 a,aw b]]=some (aB (decide (a<=15))):=by
 refine aH rfl (by kernel_rfl) (qM _ _ _ λg=>?_)
 simp[af,ah,ad,ae,aa, *,mR]
@[simp] theorem agn(v:UInt8)(c:UInt32)(ok:Bool):aF env 66 [.agg [a8 v,aw c,aB ok]]=some (aB (ox v c ok)):=by
 refine aH rfl (by kernel_rfl) (EO _ _ _ λg=>?_)
 simp[af,ah,ad,ae,aa, *,zH,lE,gk,ca]
 repeat' ((first | refine gU (λh=>?_) (λh=>?_) | refine fM (λh=>?_) (λh=>?_) | refine fN (λh=>?_) (λh=>?_) | refine fK (λh=>?_) (λh=>?_) | refine fL (λh=>?_) (λh=>?_))<;>(try simp only[decide_eq_true_eq,decide_eq_false_iff_not,dQ,ke,aZ,ff]at h)<;>(try simp[af,ah,ad,ae,aa, *,ox,lE,gk,ca]))
@[simp] theorem X2(v:UInt8)(c:UInt32)(ok:Bool):aF env 46 [.agg [a8 v,aw c,aB ok]]=some (aB (ox v c ok)):=by
 refine aH rfl (by kernel_rfl) (tU _ _ _ λg=>?_)
 simp[af,ah,ad,ae,aa, *,nJ,lE,gk,ca]
 repeat' ((first | refine gU (λh=>?_) (λh=>?_) | refine fM (λh=>?_) (λh=>?_) | refine fN (λh=>?_) (λh=>?_) | refine fK (λh=>?_) (λh=>?_) | refine fL (λh=>?_) (λh=>?_))<;>(try simp only[decide_eq_true_eq,decide_eq_false_iff_not,dQ,ke,aZ,ff]at h)<;>(try simp[af,ah,ad,ae,aa, *,ox,lE,gk,ca]))
end Go.Proofs.YtdbiffjdomokfaaGreat
namespace Go.Proofs.YtdbiffjdomokfaaGreat
open Go.Ab
attribute [local simp] aU aK cz lT
def wm(b:Bool):List Bool->Nat->Int
 | [],_ => -1
 | x :: l,k=>if b=x then k else wm b l (k+1)
theorem W8(b:Bool) : ∀(l:List Bool)(k:Nat),(0<=wm b l k↔l.contains b=true):=by
 intro l
 induction l with
 | nil=>intro k;simp[wm]
 | cons x l a=>
  intro k
  unfold wm
  split
  ·rename_i e;subst e;simp
  ·rename_i e
   rw[a (k+1)]
   have:(b == x)=false:=by cases b<;>cases x<;>simp_all
   simp only[List.contains_cons,this,Ds]
section
variable{x0:AV}{l:List Bool}(hx:Sl 1 (ae2 l) x0)(hl:l.length<4611686018427387904)
include hx hl
theorem OQ{b:Bool}{Q:AV->ai->Prop} : ∀(s:List Bool)(k:Nat)(i:Int)(H:ai),l.drop k=s->k<=l.length->i=k->(∀y H',y=aI (wm b s k)->Q y H') ->
 bB env Tryz.f110 0 fj [(8,aI i),(0,x0),(1,aB b),(7,aI l.length)] H Q:=by
 intro s
 induction s with
 | nil=>
  rintro k i H hs hk rfl h
  obtain rfl:=drop_nil hs hk
  refine lY _ _ _ _ _ _ λg=>?_
  simp[af,ah,ad,ae,aa, *,iO]
  exact h _ H rfl
 | cons a s f=>
  rintro k i H hs hk rfl h
  obtain⟨d,j,c,m⟩:=drop_cons hs
  refine lY _ _ _ _ _ _ λg=>?_
  simp[af,ah,ad,ae,aa, *,iO,hx.idx,d,j,IntWalk.i64_in ((k:Int)+1) (by omega)]
  refine aaO (λe=>?_) (λe=>?_)
  ·exact h _ _ (by simp[wm,e])
  ·simp[IntWalk.i64_in ((k:Int)+1) (by omega)]
   exact f (k+1) _ _ c (by omega) (by omega) (λy H' n=>h y H' (by simp[wm,e,n]))
@[simp] theorem Ws(b:Bool):aF env 110 [x0,aB b]=some (aI (wm b l 0)):=by
 refine aH rfl (by kernel_rfl) (tC _ _ _ _ λg=>?_)
 simp[af,ah,ad,ae,aa, *,m5,hx.len]
 exact OQ hx hl l 0 _ _ rfl (by omega) (by simp) (λy H' e=>by simp[e])
@[simp] theorem Og(b:Bool):aF env 90 [x0,aB b]=some (aB (l.contains b)):=by
 refine aH rfl (by kernel_rfl) (rU _ _ _ _ λg=>?_)
 have:=W8 b l 0
 simp[af,ah,ad,ae,aa, *,lS,hx.r,Ws hx hl,this]
@[simp] theorem S9:aF env 64 [x0]=some (aB (l.all id)):=by
 refine aH rfl (by kernel_rfl) (HB _ _ _ λg=>?_)
 have:(!l.contains false)=l.all id:=by
  clear hx hl
  induction l with
  | nil=>rfl
  | cons b l a=>cases b<;>simp_all
 simp[af,ah,ad,ae,aa, *,BB,hx.r,Og hx hl,<-this]
end
@[simp] theorem ahy(a b c:Bool):aF env 64 [.cG 1 [aB a,aB b,aB c] (some 3)]=some (aB (a&&(b&&c))):=by
 have:=S9 (l:=[a,b,c]) (x0 := .cG 1 [aB a,aB b,aB c] (some 3)) (.inr ⟨_,rfl,by simp⟩) (by simp);simpa using this
@[simp] theorem ahx(a b c d e:Bool):aF env 64 [.cG 1 [aB a,aB b,aB c,aB d,aB e] (some 5)]=some (aB (a&&(b&&(c&&(d&&e))))):=by
 have:=S9 (l:=[a,b,c,d,e]) (x0 := .cG 1 [aB a,aB b,aB c,aB d,aB e] (some 5)) (.inr ⟨_,rfl,by simp⟩) (by simp);simpa using this
theorem M7{d:AV}{Q:AV->ai->Prop}{l:List aC}(hx:Sl 5 (cN l) d)(hl:l.length<4611686018427387904) : ∀(s:List aC)(k:Nat)(i n:Int)(H:ai),l.drop k=s->k<=l.length->i=k ->
 (∀y H',y=aI (ry n s)->Q y H') ->
 bB env Tryz.f68 0 mM [(11,aI i),(3,aI n),(9,d),(10,aI l.length)] H Q:=by
 intro s
 induction s with
 | nil=>
  rintro k i n H hs hk rfl h
  obtain rfl:=drop_nil hs hk
  refine uF _ _ _ _ _ _ λg=>?_
  simp[af,ah,ad,ae,aa, *,pX]
  exact h _ H rfl
 | cons a s e=>
  rintro k i n H hs hk rfl h
  obtain⟨c,f,b,j⟩:=drop_cons hs
  refine uF _ _ _ _ _ _ λg=>?_
  simp[af,ah,ad,ae,aa, *,pX,hx.idx,c,f,aC.enc,IntWalk.i64_in ((k:Int)+1) (by omega)]
  exact e (k+1) _ _ _ b (by omega) (by omega) h
section
variable{xu xq:AV}{us:List Clear}{qs:List aC}{gr:Int}(hu:Sl 3 (cW us) xu)(hq:Sl 5 (cN qs) xq)(hql:qs.length<4611686018427387904)(hul:us.length<4611686018427387904)
include hu hq hql
@[simp] theorem QN:aF env 68 [.agg [xu,xq,aI gr]]=some (aI (ry gr qs)):=by
 refine aH rfl (by kernel_rfl) (DC _ _ _ λg=>?_)
 simp[af,ah,ad,ae,aa, *,ym,hu.r,hq.r]
 exact M7 hq hql qs 0 _ _ _ rfl (by omega) rfl (λy H' e=>by simp[e])
theorem Xz{b:AV}{r1:Ref}{c:Bool}{Q:AV->ai->Prop}{l:List aC}(hx:Sl 5 (cN l) b)(hl:l.length<4611686018427387904) : ∀(s:List aC)(k:Nat)(i n:Int)(H:ai),l.drop k=s->k<=l.length->i=k ->
 Fr H->H.get r1=some ⟨3,[.agg [xu,xq,aI gr]],false,false⟩ ->
 (∀y H',y=aI (bad (c&&(!decide (2048<ry gr qs) && !decide (8192<cellsOf n s))))->Q y H') ->
 bB env Tryz.f41 0 mN [(87,aI i),(8,aI n),(85,b),(1,.ptr r1 0 0),(3,aB c),(86,aI l.length)] H Q:=by
 intro s
 induction s with
 | nil=>
  rintro k i n H hs hk rfl hF hB h
  obtain rfl:=drop_nil hs hk
  refine uG _ _ _ _ _ _ _ _ λg=>?_
  have f:=QN (gr:=gr) hu hq hql
  simp[af,ah,ad,ae,aa, *,pY]
  repeat' ((first | refine gU (λh=>?_) (λh=>?_) | refine fM (λh=>?_) (λh=>?_) | refine fN (λh=>?_) (λh=>?_) | refine fK (λh=>?_) (λh=>?_) | refine fL (λh=>?_) (λh=>?_))<;>(try simp only[decide_eq_true_eq,decide_eq_false_iff_not,dQ,ke,aZ,ff]at h)<;>(try simp[af,ah,ad,ae,aa, *,hu.r,hq.r,f,bad,cellsOf]))
 | cons a s m=>
  rintro k i n H hs hk rfl hF hB h
  obtain⟨e,j,d,o⟩:=drop_cons hs
  refine uG _ _ _ _ _ _ _ _ λg=>?_
  simp[af,ah,ad,ae,aa, *,pY,hx.idx,e,j,aC.enc,IntWalk.i64_in ((k:Int)+1) (by omega)]
  exact m (k+1) _ _ _ d (by omega) (by omega) (by simp(maxDischargeDepth:=12) [an,aj,Fr.nil,au,af,ah,ad,ae,ao,ak,aa, *]) (by simp(maxDischargeDepth:=12) [an,aj,Fr.nil,au,af,ah,ad,ae,ao,ak,aa, *]) h
def VI(a:Bool)(p:Option aC):List aC->Bool
 | []=>a
 | q :: s=>VI (a&&(DL q&&(match p with | none=>true | some p=>CH p q))) (some q) s
theorem aaH{r1:Ref}{Q:AV->ai->Prop} : ∀(s:List aC)(k:Nat)(i:Int)(b:Bool)(H:ai),qs.drop k=s->k<=qs.length->i=k ->
 Fr H->H.get r1=some ⟨3,[.agg [xu,xq,aI gr]],false,false⟩ ->
 (∀y H',y=aI (bad (VI b (if k=0 then none else qs[k - 1]?) s&&(!decide (2048<ry gr qs) && !decide (8192<cellsOf 0 (qs.take 8)))))->Q y H') ->
 bB env Tryz.f41 0 nD [(40,aI i),(1,.ptr r1 0 0),(3,aB b),(38,xq),(39,aI qs.length)] H Q:=by
 intro s
 induction s with
 | nil=>
  rintro k i b H j hk rfl hF hB h
  obtain rfl:=drop_nil j hk
  refine vQ _ _ _ _ _ _ _ λg=>?_
  have o:(if (8:Int)<qs.length then (8:Int) else qs.length)=((min 8 qs.length:Nat):Int):=by split<;>omega
  have j:=Gl (P:=env.P) (t:=27) (z:=5) (by simp) H.get hq (n:=((min 8 qs.length:Nat):Int)) (by omega) (by simp;omega)
  obtain⟨y,I,w⟩:=j
  have F:(cN qs).take (min 8 qs.length)=cN (qs.take 8):=by
   rw[<-Jp];congr 1
   rcases Nat.le_total 8 qs.length with h | h
   ·rw[FD h]
   ·rw[Ns h,gw (bD _),gw h]
  rw[Nv,F]at w
  simp[af,ah,ad,ae,aa, *,jz,hB,hq.len,o,I,w.len]
  have v:(qs.take 8).length=min 8 qs.length:=sX
  rw[<-v]
  exact Xz hu hq hql w (by omega) _ 0 0 0 H rfl (by omega) rfl hF hB (λy H' e=>h y H' (by simpa [VI] using e))
 | cons a s G=>
  rintro k i b H j hk rfl hF hB h
  obtain⟨d,u,c,f⟩:=drop_cons j
  have p:=G (k+1)
  refine vQ _ _ _ _ _ _ _ λg=>?_
  cases k with
  | zero=>
   have m:IntKind.i64.wrap 1=1:=rfl
   cases b
   ·simp[af,ah,ad,ae,aa, *,jz,hq.idx,d,u,aC.enc,m]
    exact p _ _ _ c (by omega) rfl (by simp(maxDischargeDepth:=12) [an,aj,Fr.nil,au,af,ah,ad,ae,ao,ak,aa, *]) (by simp(maxDischargeDepth:=12) [an,aj,Fr.nil,au,af,ah,ad,ae,ao,ak,aa, *]) (λy H' e=>h y H' (by simpa [VI,f] using e))
   ·simp[af,ah,ad,ae,aa, *,jz,hq.idx,d,u,aC.enc,m]
    exact p _ _ _ c (by omega) rfl (by simp(maxDischargeDepth:=12) [an,aj,Fr.nil,au,af,ah,ad,ae,ao,ak,aa, *]) (by simp(maxDischargeDepth:=12) [an,aj,Fr.nil,au,af,ah,ad,ae,ao,ak,aa, *]) (λy H' e=>h y H' (by simpa [VI,f,DL] using e))
  | succ k=>
   have m:IntKind.i64.wrap ((k:Int)+1+1)=(k:Int)+1+1:=IntWalk.i64_in _ (by omega)
   have A:IntKind.i64.wrap (k:Int)=k:=IntWalk.i64_in _ (by omega)
   have E : ¬(k:Int)<0:=by omega
   have B : ¬(k:Int)+1=0:=by omega
   have x:k<qs.length:=by omega
   have C:(k:Int)+1<qs.length:=by omega
   have D:(0:Int)<=k+1:=by omega
   cases b
   ·simp[af,ah,ad,ae,aa, *,jz,hq.idx,d,u,aC.enc,m,A,E,B,x,C,D]
    exact p _ _ _ c (by omega) (by simp) (by simp(maxDischargeDepth:=12) [an,aj,Fr.nil,au,af,ah,ad,ae,ao,ak,aa, *]) (by simp(maxDischargeDepth:=12) [an,aj,Fr.nil,au,af,ah,ad,ae,ao,ak,aa, *]) (λy H' e=>h y H' (by simpa [VI,f] using e))
   ·simp[af,ah,ad,ae,aa, *,jz,hq.idx,d,u,aC.enc,m,A,E,B,x,C,D,hB,af hF (q:=r1)]
    exact p _ _ _ c (by omega) (by simp) (by simp(maxDischargeDepth:=12) [an,aj,Fr.nil,au,af,ah,ad,ae,ao,ak,aa, *]) (by simp(maxDischargeDepth:=12) [an,aj,Fr.nil,au,af,ah,ad,ae,ao,ak,aa, *]) (λy H' e=>h y H' (by simpa [VI,f,DL,CH,eC x,zr] using e))
omit hu hq hql in
theorem Xc : ∀(s:List aC)(a:Bool)(p:Option aC),VI a p s=(a&&yU p s):=by
 intro s
 induction s with
 | nil=>intro a p;simp[VI,yU]
 | cons q s b=>intro a p;cases p<;>simp[VI,yU,b,zr]
include hul
theorem aaI{r1:Ref}{Q:AV->ai->Prop} : ∀(s:List Clear)(k:Nat)(i:Int)(b:Bool)(H:ai),us.drop k=s->k<=us.length->i=k ->
 Fr H->H.get r1=some ⟨3,[.agg [xu,xq,aI gr]],false,false⟩ ->
 (∀y H',y=aI (bad (((b&&s.all λc=>ox c.lv c.cats c.ok)&&yU none qs)&&(!decide (2048<ry gr qs) && !decide (8192<cellsOf 0 (qs.take 8)))))->Q y H') ->
 bB env Tryz.f41 0 nE [(27,aI i),(3,aB b),(25,xu),(1,.ptr r1 0 0),(26,aI us.length)] H Q:=by
 intro s
 induction s with
 | nil=>
  rintro k i b H hs hk rfl hF hB hQ
  obtain rfl:=drop_nil hs hk
  refine vR _ _ _ _ _ _ _ λg=>?_
  simp[af,ah,ad,ae,aa, *,rF,hB,hq.len]
  exact aaH hu hq hql qs 0 0 b H rfl (by omega) rfl hF hB (λy H' e=>hQ y H' (by simpa [Xc] using e))
 | cons a s m=>
  rintro k i b H hs hk rfl hF hB hQ
  obtain⟨f,j,d,n⟩:=drop_cons hs
  refine vR _ _ _ _ _ _ _ λg=>?_
  simp[af,ah,ad,ae,aa, *,rF,hu.idx,f,j,Clear.enc]
  repeat' ((first | refine gU (λh=>?_) (λh=>?_) | refine fM (λh=>?_) (λh=>?_) | refine fN (λh=>?_) (λh=>?_) | refine fK (λh=>?_) (λh=>?_) | refine fL (λh=>?_) (λh=>?_))<;>(try simp only[decide_eq_true_eq,decide_eq_false_iff_not,dQ,ke,aZ,ff]at h)<;>(try simp[af,ah,ad,ae,aa, *,hu.idx,f,j,Clear.enc]))
  ·simp[IntWalk.i64_in ((k:Int)+1) (by omega)]
   exact m (k+1) _ _ _ d (by omega) (by simp) (by simp(maxDischargeDepth:=12) [an,aj,Fr.nil,au,af,ah,ad,ae,ao,ak,aa, *]) (by simp(maxDischargeDepth:=12) [an,aj,Fr.nil,au,af,ah,ad,ae,ao,ak,aa, *]) (λy H' e=>hQ y H' (by simp[*,zr]))
  ·simp[IntWalk.i64_in ((k:Int)+1) (by omega)]
   exact m (k+1) _ _ _ d (by omega) (by simp) (by simp(maxDischargeDepth:=12) [an,aj,Fr.nil,au,af,ah,ad,ae,ao,ak,aa, *]) (by simp(maxDischargeDepth:=12) [an,aj,Fr.nil,au,af,ah,ad,ae,ao,ak,aa, *]) (λy H' e=>hQ y H' (by simp[*,zr]))
@[simp] theorem Cz:aF env 41 [.agg [xu,xq,aI gr]]=some (aI (bad (tY us qs gr))):=by
 refine aH rfl (by kernel_rfl) (ES _ _ _ λg=>?_)
 simp[af,ah,ad,ae,aa, *,zK,hu.r,hq.r]
 refine aaI (gr:=gr) hu hq hql hul us 0 _ _ _ rfl (by omega) rfl ?_ ?_ ?_
 ·simp(maxDischargeDepth:=12) [an,aj,Fr.nil,au,af,ah,ad,ae,ao,ak,aa, *]
 ·simp(maxDischargeDepth:=12) [an,aj,Fr.nil,au,af,ah,ad,ae,ao,ak,aa, *]
 rintro y H' rfl
 simp only[Xa (f:=17) (by rfl),aU,Y8,dR]
 rw[tY,aee,aee]
 have e (n:Nat):decide ((n:Int)<=8)=decide (n<=8):=by congr 1;exact propext (by omega)
 simp only[e,zr]
@[simp] theorem Lp(a:UInt8)(b:UInt32):aF env 111 [.agg [xu,xq,aI gr],.agg [a8 a,aw b]]=some (aI (zD us qs gr a)):=by
 refine aH rfl (by kernel_rfl) (EP _ _ _ _ λg=>?_)
 simp[af,ah,ad,ae,aa, *,zI,hu.r,hq.r,Cz hu hq hql hul,zD]
end
end Go.Proofs.YtdbiffjdomokfaaGreat
namespace Go.Proofs.YtdbiffjdomokfaaGreat
open Go.Ab
attribute [local simp] aU aK cz lT
section
variable{xu xq:AV}{us:List Clear}{qs:List aC}{gr:Int}(hu:Sl 3 (cW us) xu)(hq:Sl 5 (cN qs) xq)(hql:qs.length<4611686018427387904)(hul:us.length<4611686018427387904)
include hu hq hql hul
@[simp] theorem Zm(c:Int)(a:UInt8)(b:UInt32):aF env 93 [.agg [xu,xq,aI gr],aI c,.agg [a8 a,aw b]]=some (.tup [aB (decide (zD us qs gr a=0)&&oY us c a b),aI (zD us qs gr a)]):=by
 refine aH rfl (by kernel_rfl) (HC _ _ _ _ _ λg=>?_)
 simp[af,ah,ad,ae,aa, *,BC,hu.r,hq.r,Lp hu hq hql hul]
 by_cases i:0<=c/\c<us.length
 ·obtain⟨n,rfl⟩:=KS i.1
  have e:n<us.length:=by omega
  have d : ¬(n:Int)<0:=by omega
  have f : ¬(us.length:Int)<=n:=by omega
  repeat' ((first | refine gU (λh=>?_) (λh=>?_) | refine fM (λh=>?_) (λh=>?_) | refine fN (λh=>?_) (λh=>?_) | refine fK (λh=>?_) (λh=>?_) | refine fL (λh=>?_) (λh=>?_))<;>(try simp only[decide_eq_true_eq,decide_eq_false_iff_not,dQ,ke,aZ,ff]at h)<;>(try simp[af,ah,ad,ae,aa, *,hu.r,hq.r,hu.idx,e,d,f,oY,Clear.enc]))
 ·have d : ¬c<0->(us.length:Int)<=c:=by omega
  repeat' ((first | refine gU (λh=>?_) (λh=>?_) | refine fM (λh=>?_) (λh=>?_) | refine fN (λh=>?_) (λh=>?_) | refine fK (λh=>?_) (λh=>?_) | refine fL (λh=>?_) (λh=>?_))<;>(try simp only[decide_eq_true_eq,decide_eq_false_iff_not,dQ,ke,aZ,ff]at h)<;>(try simp[af,ah,ad,ae,aa, *,hu.r,hq.r,hu.idx,oY,Clear.enc]))
end
@[simp] theorem Tm{xu xq:AV}{us:List Clear}{qs:List aC}(gr:Int)(hu:Sl 3 (cW us) xu)(hq:Sl 5 (cN qs) xq):aF env 25 [.agg [xu,xq,aI gr]]=some (aB (decide (100<(us.length:Int))||decide (100<(qs.length:Int)))):=by
 refine aH rfl (by kernel_rfl) (wQ _ _ _ λg=>?_)
 simp[af,ah,ad,ae,aa, *,pH,hu.r,hq.r]
 repeat' ((first | refine gU (λh=>?_) (λh=>?_) | refine fM (λh=>?_) (λh=>?_) | refine fN (λh=>?_) (λh=>?_) | refine fK (λh=>?_) (λh=>?_) | refine fL (λh=>?_) (λh=>?_))<;>(try simp only[decide_eq_true_eq,decide_eq_false_iff_not,dQ,ke,aZ,ff]at h)<;>(try simp[af,ah,ad,ae,aa, *,hu.r,hq.r]))
@[simp] theorem aii(a:UInt8)(b:UInt32)(x y z:Int):aF env 113 [.agg [a8 a,aw b,aI x,aI y,aI z]]=some (.agg [a8 a,aw b]):=by
 refine aH rfl (by kernel_rfl) (Cf _ _ _ λg=>?_)
 simp[af,ah,ad,ae,aa, *,wz]
@[simp] theorem adP(q:aC)(a:UInt8)(b:UInt32):aF env 129 [.agg [a8 q.lv,aw q.cats,aI q.opens,aI q.ops,aI q.cells],.iptr 1 [.fn (.func 113) [] []] 0 0,.iptr 2 [.agg [a8 a,aw b]] 0 0]=some (aB (wi a b q)):=by
 refine aH rfl (by kernel_rfl) (iC _ _ _ _ _ λg=>?_)
 simp[af,ah,ad,ae,aa, *,dH,gk,ca,wi]
def tv(a:UInt8)(b:UInt32):List aC->Nat->Int
 | [],_ => -1
 | q :: s,k=>if wi a b q=true then k else tv a b s (k+1)
section
variable{xq:AV}{qs:List aC}(hq:Sl 5 (cN qs) xq)(hql:qs.length<4611686018427387904)
include hq hql
theorem GS{a:UInt8}{b:UInt32}{Q:AV->ai->Prop} : ∀(s:List aC)(k:Nat)(i:Int)(H:ai),qs.drop k=s->k<=qs.length->i=k->(∀y H',y=aI (tv a b s k)->Q y H') ->
 bB env Tryz.f128 0 bm [(8,aI i),(0,xq),(1,.fn (.func 129) [] [.iptr 1 [.fn (.func 113) [] []] 0 0,.iptr 2 [.agg [a8 a,aw b]] 0 0]),(7,aI qs.length)] H Q:=by
 intro s
 induction s with
 | nil=>
  rintro k i H hs hk rfl hQ
  obtain rfl:=drop_nil hs hk
  refine cR _ _ _ _ _ _ λg=>?_
  simp[af,ah,ad,ae,aa, *,bP]
  all_goals (first | exact hQ _ _ rfl | exact hQ _ _ (by simp[*]))
 | cons q s f=>
  rintro k i H hs hk rfl hQ
  obtain⟨d,j,c,l⟩:=drop_cons hs
  refine cR _ _ _ _ _ _ λg=>?_
  simp[af,ah,ad,ae,aa, *,bP,hq.idx,d,j,aC.enc]
  refine gU (λh=>?_) (λh=>?_)
  ·all_goals (first | exact hQ _ _ rfl | exact hQ _ _ (by simp[*,tv]))
  simp[IntWalk.i64_in ((k:Int)+1) (by omega)]
  exact f (k+1) _ _ c (by omega) (by simp) (λy H' e=>hQ y H' (by simp[*,tv]))
@[simp] theorem Lv(a:UInt8)(b:UInt32):aF env 128 [xq,.fn (.func 129) [] [.iptr 1 [.fn (.func 113) [] []] 0 0,.iptr 2 [.agg [a8 a,aw b]] 0 0]]=some (aI (tv a b qs 0)):=by
 refine aH rfl (by kernel_rfl) (gx _ _ _ _ λg=>?_)
 simp[af,ah,ad,ae,aa, *,da,hq.r]
 exact GS hq hql qs 0 _ _ rfl (by omega) (by simp) (λy H' e=>by simp[e])
omit hq hql in
theorem HX(a:UInt8)(b:UInt32) : ∀(s:List aC)(k:Nat),qs.drop k=s->(tv a b s k = -1/\s.find? (wi a b)=none) \/∃n,∃h:n<qs.length,tv a b s k=(n:Int)/\s.find? (wi a b)=some qs[n]:=by
 intro s
 induction s with
 | nil=>intro k _;exact .inl ⟨rfl,rfl⟩
 | cons q s i=>
  intro k g
  obtain⟨d,l,c,m⟩:=drop_cons g
  unfold tv
  by_cases h:wi a b q=true
  ·exact .inr ⟨k,d,by simp[h],by simp[h,l]⟩
  ·rcases i (k+1) c with ⟨e,f⟩ | ⟨n,j,e,f⟩
   ·exact .inl ⟨by simp[h,e],by simp[h,f]⟩
   ·exact .inr ⟨n,j,by simp[h,e],by simp[h,f]⟩
@[simp] theorem S6(a:UInt8)(b:UInt32):aF env 112 [xq,.agg [a8 a,aw b],.fn (.func 113) [] []]=some (match qs.find? (wi a b) with
 | some q => .tup [.agg q.enc,aB true]
 | none => .tup [.agg (aC.mk 0 0 0 0 0).enc,aB false]):=by
 refine aH rfl (by kernel_rfl) (iR _ _ _ _ _ λg=>?_)
 simp[af,ah,ad,ae,aa, *,dU,hq.r,Lv hq hql]
 rcases HX a b qs 0 rfl with ⟨c,d⟩ | ⟨n,f,c,d⟩
 ·rw[c,d]
  simp[aC.enc]
 ·have e : ¬(n:Int)<0:=by omega
  rw[c,d]
  simp[hq.idx,f,e,aC.enc]
end
end Go.Proofs.YtdbiffjdomokfaaGreat
namespace Go.Proofs.YtdbiffjdomokfaaGreat
open Go.Ab
attribute [local simp] aU aK cz lT
def qS(us:List Clear)(qs:List aC)(gr:Int)(a:UInt8)(b:UInt32):aC:=if zD us qs gr a=0 then nC qs a b else ⟨0,0,0,0,0⟩
section
variable{xu xq:AV}{us:List Clear}{qs:List aC}{gr:Int}(hu:Sl 3 (cW us) xu)(hq:Sl 5 (cN qs) xq)(hql:qs.length<4611686018427387904)(hul:us.length<4611686018427387904)
include hu hq hql hul
@[simp] theorem PG(a:UInt8)(b:UInt32):aF env 92 [.agg [xu,xq,aI gr],.agg [a8 a,aw b]]=some (.tup [.agg (qS us qs gr a b).enc,aI (zD us qs gr a)]):=by
 refine aH rfl (by kernel_rfl) (ER _ _ _ _ λg=>?_)
 simp[af,ah,ad,ae,aa, *,zJ,hu.r,hq.r,Lp hu hq hql hul,lE]
 unfold qS nC
 refine gU (λh=>?_) (λh=>?_)
 ·have h:zD us qs gr a≠0:=by simpa using h
  simp[h,aC.enc]
 ·have h:zD us qs gr a=0:=by simpa using h
  cases c:qs.find? (wi a b) with
  | none=>simp[hu.r,hq.r,S6 hq hql,c,aC.enc,h,lE]
  | some q=>simp[hu.r,hq.r,S6 hq hql,c,aC.enc,h,lE]
end
end Go.Proofs.YtdbiffjdomokfaaGreat
namespace Go.Proofs.YtdbiffjdomokfaaGreat
open Go.Ab
attribute [local simp] aU aK cz lT ba aO aQ cg cf bI
theorem aec:bS env.P .eql 26 (.tmp 3) (.const (.slice none 0 0)) (some bZ) (some bZ)=some (aB true,[]):=by kernel_rfl
theorem aeb:bS env.P .eql 27 (.tmp 3) (.const (.slice none 0 0)) (some bZ) (some bZ)=some (aB true,[]):=by kernel_rfl
theorem TB{xu:AV}{us:List Clear}(hu:Sl 3 (cW us) xu)(hul:us.length * 12<=140737488355328):aF env 69 [xu]=some (rq xu):=by
 rcases hu.PX with ⟨rfl,he⟩ | ⟨c,rfl⟩
 ·refine aH rfl (by kernel_rfl) (bV _ _ _ λg=>?_)
  simp[af,ah,ad,ae,aa, *,bz,aec]
 ·by_cases a:us=[]
  ·refine aH rfl (by kernel_rfl) (bV _ _ _ λg=>?_)
   subst a
   simp[af,ah,ad,ae,aa, *,bz]
  ·refine aH rfl (by kernel_rfl) (bV _ _ _ λg=>?_)
   simp[af,ah,ad,ae,aa, *,bz,Fp,sL]
theorem TA{xu:AV}{us:List aC}(hu:Sl 5 (cN us) xu)(hul:us.length * 32<=140737488355328):aF env 70 [xu]=some (rq xu):=by
 rcases hu.PX with ⟨rfl,he⟩ | ⟨c,rfl⟩
 ·refine aH rfl (by kernel_rfl) (bU _ _ _ λg=>?_)
  simp[af,ah,ad,ae,aa, *,bx,aeb]
 ·by_cases a:us=[]
  ·refine aH rfl (by kernel_rfl) (bU _ _ _ λg=>?_)
   subst a
   simp[af,ah,ad,ae,aa, *,bx]
  ·refine aH rfl (by kernel_rfl) (bU _ _ _ λg=>?_)
   simp[af,ah,ad,ae,aa, *,bx,Fp,sL]
section
variable{xu xq:AV}{us:List Clear}{qs:List aC}{gr:Int}(hu:Sl 3 (cW us) xu)(hq:Sl 5 (cN qs) xq)(hql:qs.length * 32<=140737488355328)(hul:us.length * 12<=140737488355328)
include hu hq hql hul
theorem PH:aF env 42 [.agg [xu,xq,aI gr]]=some (.agg [rq xu,rq xq,aI gr]):=by
 have b:=TB hu hul
 have c:=TA hq hql
 have f:=vc hu
 have a:=vc hq
 generalize rq xu=yu at *
 generalize rq xq=yq at *
 refine aH rfl (by kernel_rfl) (F1 _ _ _ λg=>?_)
 rcases f with ⟨rfl,d⟩ | rfl | ⟨rfl,d⟩<;>rcases a with ⟨rfl,e⟩ | rfl | ⟨rfl,e⟩<;>simp[af,ah,ad,ae,aa, *,AH,hu.r,hq.r,aG]
theorem Wl:aF env 87 [.agg [xu,xq,aI gr]]=some (.agg [WO 3 (cW us),WO 5 (cN qs),aI gr]):=by
 refine aH rfl (by kernel_rfl) (xJ _ _ _ λg=>?_)
 by_cases b:us=[]
 ·by_cases a:qs=[]
  ·subst b;subst a
   simp[af,ah,ad,ae,aa, *,gm,hu.r,hq.r,hu.kM,hq.kM]
  ·subst b
   simp[af,ah,ad,ae,aa, *,gm,hu.r,hq.r,hu.kM,hq.kM,CM]
 ·by_cases a:qs=[]
  ·subst a
   simp[af,ah,ad,ae,aa, *,gm,hu.r,hq.r,hu.kM,hq.kM,CM]
  ·simp[af,ah,ad,ae,aa, *,gm,hu.r,hq.r,hu.kM,hq.kM,CM]
end
end Go.Proofs.YtdbiffjdomokfaaGreat
