/-
  Labels: what the functions answer. No statement of a seat is proved here.
-/
import Derived.Test.YtdbiffjdomokfaaGreatAuVc7
import Derived.Test.YtdbiffjdomokfaaGreatAuVc4
import Derived.Test.YtdbiffjdomokfaaGreatAuVc1
import Derived.Test.YtdbiffjdomokfaaGreatMLePol
import Derived.Test.YtdbiffjdomokfaaGreatAbsRules
set_option linter.unusedVariables false
set_option linter.unusedSimpArgs false
set_option linter.unusedSectionVars false
set_option linter.unnecessarySimpa false
set_option maxRecDepth 100000
namespace Go.Proofs.YtdbiffjdomokfaaGreat
open Go.Ab
attribute [local simp] bK bw dc kS
@[simp] theorem Ji(a:UInt8)(b:UInt32):bj env 33 [.agg [a8 a,aF b]]=some (aI (vP a)):=by
 refine aJ (fn:=Tryz.f33) (c:=pI) rfl (by kernel_rfl) (by kernel_rfl) (by kernel_rfl) (by kernel_rfl) ?_;refine tf _ _ _ fun g=>?_
 simp[ah,ai,ae,af,ad, *,pR]
 repeat' ((first | refine kP (fun h=>?_) (fun h=>?_) | refine kp (fun h=>?_) (fun h=>?_) | refine kq (fun h=>?_) (fun h=>?_) | refine kn (fun h=>?_) (fun h=>?_) | refine ko (fun h=>?_) (fun h=>?_))<;>(try simp only[decide_eq_true_eq,decide_eq_false_iff_not,Bool.not_eq_true',Bool.not_eq_false',Bool.and_eq_true,Bool.or_eq_true]at h)<;>(try simp[ah,ai,ae,af,ad, *,vP]))
@[simp] theorem Av(a:UInt8)(b:UInt32)(c:UInt8)(d:UInt32):bj env 20 [.agg [a8 a,aF b],.agg [a8 c,aF d]]=some (aB (QN a b c d)):=by
 refine aJ (fn:=Tryz.f20) (c:=su) rfl (by kernel_rfl) (by kernel_rfl) (by kernel_rfl) (by kernel_rfl) ?_;refine wx _ _ _ _ fun g=>?_
 simp[ah,ai,ae,af,ad, *,sD]
 repeat' ((first | refine kP (fun h=>?_) (fun h=>?_) | refine kp (fun h=>?_) (fun h=>?_) | refine kq (fun h=>?_) (fun h=>?_) | refine kn (fun h=>?_) (fun h=>?_) | refine ko (fun h=>?_) (fun h=>?_))<;>(try simp only[decide_eq_true_eq,decide_eq_false_iff_not,Bool.not_eq_true',Bool.not_eq_false',Bool.and_eq_true,Bool.or_eq_true]at h)<;>(try simp[ah,ai,ae,af,ad, *,QN]))
@[simp] theorem W0(a:UInt8)(b:UInt32)(c:UInt8)(d:UInt32):bj env 67 [.agg [a8 a,aF b],.agg [a8 c,aF d]]=some (aB (HR a b c d)):=by
 refine aJ (fn:=Tryz.f67) (c:=uf) rfl (by kernel_rfl) (by kernel_rfl) (by kernel_rfl) (by kernel_rfl) ?_;refine Ae _ _ _ _ fun g=>?_
 simp[ah,ai,ae,af,ad, *,uv,jP,lC,fL]
 repeat' ((first | refine kP (fun h=>?_) (fun h=>?_) | refine kp (fun h=>?_) (fun h=>?_) | refine kq (fun h=>?_) (fun h=>?_) | refine kn (fun h=>?_) (fun h=>?_) | refine ko (fun h=>?_) (fun h=>?_))<;>(try simp only[decide_eq_true_eq,decide_eq_false_iff_not,Bool.not_eq_true',Bool.not_eq_false',Bool.and_eq_true,Bool.or_eq_true]at h)<;>(try simp[ah,ai,ae,af,ad, *,HR,jP,lC,fL]))
@[simp] theorem NG:bj env 91 []=some (.agg [a8 0,aF 0]):=by
 refine aJ (fn:=Tryz.f91) (c:=pH) rfl (by kernel_rfl) (by kernel_rfl) (by kernel_rfl) (by kernel_rfl) ?_;refine te _ _ fun g=>?_
 simp[ah,ai,ae,af,ad, *,pQ,jP]
@[simp] theorem X2(n m:Int):bj env 65 [aI n,aI m]=some (aB (decide (0≤n)&&decide (n≤m))):=by
 refine aJ (fn:=Tryz.f65) (c:=uc) rfl (by kernel_rfl) (by kernel_rfl) (by kernel_rfl) (by kernel_rfl) ?_;refine Aa _ _ _ _ fun g=>?_
 simp[ah,ai,ae,af,ad, *,uo]
 repeat' ((first | refine kP (fun h=>?_) (fun h=>?_) | refine kp (fun h=>?_) (fun h=>?_) | refine kq (fun h=>?_) (fun h=>?_) | refine kn (fun h=>?_) (fun h=>?_) | refine ko (fun h=>?_) (fun h=>?_))<;>(try simp only[decide_eq_true_eq,decide_eq_false_iff_not,Bool.not_eq_true',Bool.not_eq_false',Bool.and_eq_true,Bool.or_eq_true]at h)<;>(try simp[ah,ai,ae,af,ad, *]))
@[simp] theorem WY(v:UInt8)(c:UInt32)(ok:Bool):bj env 66 [.agg [a8 v,aF c,aB ok]]=some (aB (Em v c ok)):=by
 refine aJ (fn:=Tryz.f66) (c:=sR) rfl (by kernel_rfl) (by kernel_rfl) (by kernel_rfl) (by kernel_rfl) ?_;refine zm _ _ _ fun g=>?_
 simp[ah,ai,ae,af,ad, *,sW,jP,lC,fL]
 repeat' ((first | refine kP (fun h=>?_) (fun h=>?_) | refine kp (fun h=>?_) (fun h=>?_) | refine kq (fun h=>?_) (fun h=>?_) | refine kn (fun h=>?_) (fun h=>?_) | refine ko (fun h=>?_) (fun h=>?_))<;>(try simp only[decide_eq_true_eq,decide_eq_false_iff_not,Bool.not_eq_true',Bool.not_eq_false',Bool.and_eq_true,Bool.or_eq_true]at h)<;>(try simp[ah,ai,ae,af,ad, *,Em,jP,lC,fL]))
end Go.Proofs.YtdbiffjdomokfaaGreat
namespace Go.Proofs.YtdbiffjdomokfaaGreat
open Go.Ab
attribute [local simp] bK bw dc kS
def qp(b:Bool):List Bool→Nat→Int
 | [],_ => -1
 | x :: l,k=>if b=x then k else qp b l (k+1)
theorem Od(b:Bool) : ∀(l:List Bool)(k:Nat),(0≤qp b l k↔l.contains b=true):=by
 intro l
 induction l with
 | nil=>intro k;simp[qp]
 | cons x l ih =>
  intro k
  unfold qp
  split
  ·rename_i e;subst e;simp
  ·rename_i e
   rw[ih (k+1)]
   have:(b == x)=false:=by cases b<;>cases x<;>simp_all
   simp only[List.contains_cons,this,Bool.false_or]
section
variable{x0:AV}{l:List Bool}(hx:Sl 1 (VB l) x0)(hl:l.length<4611686018427387904)
include hx hl
theorem Ho{b:Bool}{Q:AV→ab→Prop} : ∀(s:List Bool)(k:Nat)(i:Int)(H:ab),l.drop k=s→k≤l.length→i=k→(∀y H',y=aI (qp b s k)→Q y H') →
 bW env Tryz.f110 0 ew [(8,aI i),(0,x0),(1,aB b),(7,aI l.length)] H Q:=by
 intro s
 induction s with
 | nil =>
  rintro k i H hs hk rfl h
  obtain rfl:=drop_nil hs hk
  refine ji _ _ _ _ _ _ fun g=>?_
  simp[ah,ai,ae,af,ad, *,fO]
  exact h _ H rfl
 | cons a s ih =>
  rintro k i H hs hk rfl h
  obtain⟨hlt,hg,hs',hg'⟩:=drop_cons hs
  refine ji _ _ _ _ _ _ fun g=>?_
  simp[ah,ai,ae,af,ad, *,fO,hx.idx,hlt,hg,IntWalk.i64_in ((k:Int)+1) (by omega)]
  refine Rw (fun e=>?_) (fun e=>?_)
  ·exact h _ _ (by simp[qp,e])
  ·simp[IntWalk.i64_in ((k:Int)+1) (by omega)]
   exact ih (k+1) _ _ hs' (by omega) (by omega) (fun y H' ey=>h y H' (by simp[qp,e,ey]))
@[simp] theorem NH(b:Bool):bj env 110 [x0,aB b]=some (aI (qp b l 0)):=by
 refine aJ (fn:=Tryz.f110) (c:=gz) rfl (by kernel_rfl) (by kernel_rfl) (by kernel_rfl) (by kernel_rfl) ?_;refine oL _ _ _ _ fun g=>?_
 simp[ah,ai,ae,af,ad, *,j5,hx.len]
 exact Ho hx hl l 0 _ _ rfl (by omega) (by simp) (fun y H' e=>by simp[e])
@[simp] theorem G0(b:Bool):bj env 90 [x0,aB b]=some (aB (l.contains b)):=by
 refine aJ (fn:=Tryz.f90) (c:=jf) rfl (by kernel_rfl) (by kernel_rfl) (by kernel_rfl) (by kernel_rfl) ?_;refine ny _ _ _ _ fun g=>?_
 have:=Od b l 0
 simp[ah,ai,ae,af,ad, *,jg,hx.r,NH hx hl,this]
@[simp] theorem KP:bj env 64 [x0]=some (aB (l.all id)):=by
 refine aJ (fn:=Tryz.f64) (c:=vm) rfl (by kernel_rfl) (by kernel_rfl) (by kernel_rfl) (by kernel_rfl) ?_;refine BR _ _ _ fun g=>?_
 have:(!l.contains false)=l.all id:=by
  clear hx hl
  induction l with
  | nil=>rfl
  | cons b l ih=>cases b<;>simp_all
 simp[ah,ai,ae,af,ad, *,vA,hx.r,G0 hx hl,←this]
end
@[simp] theorem X4(a b c:Bool):bj env 64 [.cm 1 [aB a,aB b,aB c] (some 3)]=some (aB (a&&(b&&c))):=by
 have:=KP (l:=[a,b,c]) (x0 := .cm 1 [aB a,aB b,aB c] (some 3)) (.inr ⟨_,rfl,by simp⟩) (by simp);simpa using this
@[simp] theorem X3(a b c d e:Bool):bj env 64 [.cm 1 [aB a,aB b,aB c,aB d,aB e] (some 5)]=some (aB (a&&(b&&(c&&(d&&e))))):=by
 have:=KP (l:=[a,b,c,d,e]) (x0 := .cm 1 [aB a,aB b,aB c,aB d,aB e] (some 5)) (.inr ⟨_,rfl,by simp⟩) (by simp);simpa using this
theorem Gs{x9:AV}{Q:AV→ab→Prop}{l:List bI}(hx:Sl 5 (fQ l) x9)(hl:l.length<4611686018427387904) : ∀(s:List bI)(k:Nat)(i n:Int)(H:ab),l.drop k=s→k≤l.length→i=k →
 (∀y H',y=aI (rK n s)→Q y H') →
 bW env Tryz.f68 0 jM [(11,aI i),(3,aI n),(9,x9),(10,aI l.length)] H Q:=by
 intro s
 induction s with
 | nil =>
  rintro k i n H hs hk rfl h
  obtain rfl:=drop_nil hs hk
  refine ph _ _ _ _ _ _ fun g=>?_
  simp[ah,ai,ae,af,ad, *,mf]
  exact h _ H rfl
 | cons a s ih =>
  rintro k i n H hs hk rfl h
  obtain⟨hlt,hg,hs',hg'⟩:=drop_cons hs
  refine ph _ _ _ _ _ _ fun g=>?_
  simp[ah,ai,ae,af,ad, *,mf,hx.idx,hlt,hg,bI.enc,IntWalk.i64_in ((k:Int)+1) (by omega)]
  exact ih (k+1) _ _ _ hs' (by omega) (by omega) h
section
variable{xu xq:AV}{us:List Clear}{qs:List bI}{gr:Int}(hu:Sl 3 (fD us) xu)(hq:Sl 5 (fQ qs) xq)(hql:qs.length<4611686018427387904)(hul:us.length<4611686018427387904)
include hu hq hql
@[simp] theorem Jb:bj env 68 [.agg [xu,xq,aI gr]]=some (aI (rK gr qs)):=by
 refine aJ (fn:=Tryz.f68) (c:=nT) rfl (by kernel_rfl) (by kernel_rfl) (by kernel_rfl) (by kernel_rfl) ?_;refine ya _ _ _ fun g=>?_
 simp[ah,ai,ae,af,ad, *,rR,hu.r,hq.r]
 exact Gs hq hql qs 0 _ _ _ rfl (by omega) rfl (fun y H' e=>by simp[e])
theorem OF{x85:AV}{r1:Ref}{may:Bool}{Q:AV→ab→Prop}{l:List bI}(hx:Sl 5 (fQ l) x85)(hl:l.length<4611686018427387904) : ∀(s:List bI)(k:Nat)(i n:Int)(H:ab),l.drop k=s→k≤l.length→i=k →
 Fr H→H.get r1=some ⟨3,[.agg [xu,xq,aI gr]],false,false⟩ →
 (∀y H',y=aI (bad (may&&(!decide (2048<rK gr qs) && !decide (8192<cellsOf n s))))→Q y H') →
 bW env Tryz.f41 0 jN [(87,aI i),(8,aI n),(85,x85),(1,.ptr r1 0 0),(3,aB may),(86,aI l.length)] H Q:=by
 intro s
 induction s with
 | nil =>
  rintro k i n H hs hk rfl hF hB h
  obtain rfl:=drop_nil hs hk
  refine pj _ _ _ _ _ _ _ _ fun g=>?_
  have hb:=Jb (gr:=gr) hu hq hql
  simp[ah,ai,ae,af,ad, *,mg]
  repeat' ((first | refine kP (fun h=>?_) (fun h=>?_) | refine kp (fun h=>?_) (fun h=>?_) | refine kq (fun h=>?_) (fun h=>?_) | refine kn (fun h=>?_) (fun h=>?_) | refine ko (fun h=>?_) (fun h=>?_))<;>(try simp only[decide_eq_true_eq,decide_eq_false_iff_not,Bool.not_eq_true',Bool.not_eq_false',Bool.and_eq_true,Bool.or_eq_true]at h)<;>(try simp[ah,ai,ae,af,ad, *,hu.r,hq.r,hb,bad,cellsOf]))
 | cons a s ih =>
  rintro k i n H hs hk rfl hF hB h
  obtain⟨hlt,hg,hs',hg'⟩:=drop_cons hs
  refine pj _ _ _ _ _ _ _ _ fun g=>?_
  simp[ah,ai,ae,af,ad, *,mg,hx.idx,hlt,hg,bI.enc,IntWalk.i64_in ((k:Int)+1) (by omega)]
  exact ih (k+1) _ _ _ hs' (by omega) (by omega) (by simp(maxDischargeDepth:=12) [aq,an,Fr.nil,aD,ah,ai,ae,af,ar,ao,ad, *]) (by simp(maxDischargeDepth:=12) [aq,an,Fr.nil,aD,ah,ai,ae,af,ar,ao,ad, *]) h
def MU(may:Bool)(p:Option bI):List bI→Bool
 | []=>may
 | q :: s=>MU (may&&(NO q&&(match p with | none=>true | some p=>DN p q))) (some q) s
theorem Rq{r1:Ref}{Q:AV→ab→Prop} : ∀(s:List bI)(k:Nat)(i:Int)(may:Bool)(H:ab),qs.drop k=s→k≤qs.length→i=k →
 Fr H→H.get r1=some ⟨3,[.agg [xu,xq,aI gr]],false,false⟩ →
 (∀y H',y=aI (bad (MU may (if k=0 then none else qs[k - 1]?) s&&(!decide (2048<rK gr qs) && !decide (8192<cellsOf 0 (qs.take 8)))))→Q y H') →
 bW env Tryz.f41 0 ku [(40,aI i),(1,.ptr r1 0 0),(3,aB may),(38,xq),(39,aI qs.length)] H Q:=by
 intro s
 induction s with
 | nil =>
  rintro k i may H hs hk rfl hF hB h
  obtain rfl:=drop_nil hs hk
  refine p6 _ _ _ _ _ _ _ fun g=>?_
  have hmin:(if (8:Int)<qs.length then (8:Int) else qs.length)=((min 8 qs.length:Nat):Int):=by split<;>omega
  have hs:=EW (P:=env.P) (t:=27) (z:=5) (by simp) H.get hq (n:=((min 8 qs.length:Nat):Int)) (by omega) (by simp;omega)
  obtain⟨y,ey,sy⟩:=hs
  have ht:(fQ qs).take (min 8 qs.length)=fQ (qs.take 8):=by
   rw[←List.map_take];congr 1
   rcases Nat.le_total 8 qs.length with h | h
   ·rw[Nat.min_eq_left h]
   ·rw[Nat.min_eq_right h,List.take_of_length_le (Nat.le_refl _),List.take_of_length_le h]
  rw[Int.toNat_natCast,ht]at sy
  simp[ah,ai,ae,af,ad, *,gp,hB,hq.len,hmin,ey,sy.len]
  have hl8:(qs.take 8).length=min 8 qs.length:=List.length_take
  rw[←hl8]
  exact OF hu hq hql sy (by omega) _ 0 0 0 H rfl (by omega) rfl hF hB (fun y H' e=>h y H' (by simpa [MU] using e))
 | cons a s ih =>
  rintro k i may H hs hk rfl hF hB h
  obtain⟨hlt,hg,hs',hg'⟩:=drop_cons hs
  have hi:=ih (k+1)
  refine p6 _ _ _ _ _ _ _ fun g=>?_
  cases k with
  | zero =>
   have e1:IntKind.i64.wrap 1=1:=rfl
   cases may
   ·simp[ah,ai,ae,af,ad, *,gp,hq.idx,hlt,hg,bI.enc,e1]
    exact hi _ _ _ hs' (by omega) rfl (by simp(maxDischargeDepth:=12) [aq,an,Fr.nil,aD,ah,ai,ae,af,ar,ao,ad, *]) (by simp(maxDischargeDepth:=12) [aq,an,Fr.nil,aD,ah,ai,ae,af,ar,ao,ad, *]) (fun y H' e=>h y H' (by simpa [MU,hg'] using e))
   ·simp[ah,ai,ae,af,ad, *,gp,hq.idx,hlt,hg,bI.enc,e1]
    exact hi _ _ _ hs' (by omega) rfl (by simp(maxDischargeDepth:=12) [aq,an,Fr.nil,aD,ah,ai,ae,af,ar,ao,ad, *]) (by simp(maxDischargeDepth:=12) [aq,an,Fr.nil,aD,ah,ai,ae,af,ar,ao,ad, *]) (fun y H' e=>h y H' (by simpa [MU,hg',NO] using e))
  | succ k =>
   have e1:IntKind.i64.wrap ((k:Int)+1+1)=(k:Int)+1+1:=IntWalk.i64_in _ (by omega)
   have e2:IntKind.i64.wrap (k:Int)=k:=IntWalk.i64_in _ (by omega)
   have e3 : ¬(k:Int)<0:=by omega
   have e4 : ¬(k:Int)+1=0:=by omega
   have e5:k<qs.length:=by omega
   have e6:(k:Int)+1<qs.length:=by omega
   have e7:(0:Int)≤k+1:=by omega
   cases may
   ·simp[ah,ai,ae,af,ad, *,gp,hq.idx,hlt,hg,bI.enc,e1,e2,e3,e4,e5,e6,e7]
    exact hi _ _ _ hs' (by omega) (by simp) (by simp(maxDischargeDepth:=12) [aq,an,Fr.nil,aD,ah,ai,ae,af,ar,ao,ad, *]) (by simp(maxDischargeDepth:=12) [aq,an,Fr.nil,aD,ah,ai,ae,af,ar,ao,ad, *]) (fun y H' e=>h y H' (by simpa [MU,hg'] using e))
   ·simp[ah,ai,ae,af,ad, *,gp,hq.idx,hlt,hg,bI.enc,e1,e2,e3,e4,e5,e6,e7,hB,ah hF (q:=r1)]
    exact hi _ _ _ hs' (by omega) (by simp) (by simp(maxDischargeDepth:=12) [aq,an,Fr.nil,aD,ah,ai,ae,af,ar,ao,ad, *]) (by simp(maxDischargeDepth:=12) [aq,an,Fr.nil,aD,ah,ai,ae,af,ar,ao,ad, *]) (fun y H' e=>h y H' (by simpa [MU,hg',NO,DN,List.getElem?_eq_getElem e5,Bool.and_assoc] using e))
omit hu hq hql in
theorem Of : ∀(s:List bI)(may:Bool)(p:Option bI),MU may p s=(may&&Ju p s):=by
 intro s
 induction s with
 | nil=>intro may p;simp[MU,Ju]
 | cons q s ih=>intro may p;cases p<;>simp[MU,Ju,ih,Bool.and_assoc]
include hul
theorem Rr{r1:Ref}{Q:AV→ab→Prop} : ∀(s:List Clear)(k:Nat)(i:Int)(may:Bool)(H:ab),us.drop k=s→k≤us.length→i=k →
 Fr H→H.get r1=some ⟨3,[.agg [xu,xq,aI gr]],false,false⟩ →
 (∀y H',y=aI (bad (((may&&s.all fun c=>Em c.lv c.cats c.ok)&&Ju none qs)&&(!decide (2048<rK gr qs) && !decide (8192<cellsOf 0 (qs.take 8)))))→Q y H') →
 bW env Tryz.f41 0 ky [(27,aI i),(3,aB may),(25,xu),(1,.ptr r1 0 0),(26,aI us.length)] H Q:=by
 intro s
 induction s with
 | nil =>
  rintro k i may H hs hk rfl hF hB hQ
  obtain rfl:=drop_nil hs hk
  refine p7 _ _ _ _ _ _ _ fun g=>?_
  simp[ah,ai,ae,af,ad, *,ng,hB,hq.len]
  exact Rq hu hq hql qs 0 0 may H rfl (by omega) rfl hF hB (fun y H' e=>hQ y H' (by simpa [Of] using e))
 | cons a s ih =>
  rintro k i may H hs hk rfl hF hB hQ
  obtain⟨hlt,hg,hs',hg'⟩:=drop_cons hs
  refine p7 _ _ _ _ _ _ _ fun g=>?_
  simp[ah,ai,ae,af,ad, *,ng,hu.idx,hlt,hg,Clear.enc]
  repeat' ((first | refine kP (fun h=>?_) (fun h=>?_) | refine kp (fun h=>?_) (fun h=>?_) | refine kq (fun h=>?_) (fun h=>?_) | refine kn (fun h=>?_) (fun h=>?_) | refine ko (fun h=>?_) (fun h=>?_))<;>(try simp only[decide_eq_true_eq,decide_eq_false_iff_not,Bool.not_eq_true',Bool.not_eq_false',Bool.and_eq_true,Bool.or_eq_true]at h)<;>(try simp[ah,ai,ae,af,ad, *,hu.idx,hlt,hg,Clear.enc]))
  ·simp[IntWalk.i64_in ((k:Int)+1) (by omega)]
   exact ih (k+1) _ _ _ hs' (by omega) (by simp) (by simp(maxDischargeDepth:=12) [aq,an,Fr.nil,aD,ah,ai,ae,af,ar,ao,ad, *]) (by simp(maxDischargeDepth:=12) [aq,an,Fr.nil,aD,ah,ai,ae,af,ar,ao,ad, *]) (fun y H' e=>hQ y H' (by simp[*,Bool.and_assoc]))
  ·simp[IntWalk.i64_in ((k:Int)+1) (by omega)]
   exact ih (k+1) _ _ _ hs' (by omega) (by simp) (by simp(maxDischargeDepth:=12) [aq,an,Fr.nil,aD,ah,ai,ae,af,ar,ao,ad, *]) (by simp(maxDischargeDepth:=12) [aq,an,Fr.nil,aD,ah,ai,ae,af,ar,ao,ad, *]) (fun y H' e=>hQ y H' (by simp[*,Bool.and_assoc]))
@[simp] theorem wJ:bj env 41 [.agg [xu,xq,aI gr]]=some (aI (bad (DO us qs gr))):=by
 refine aJ (fn:=Tryz.f41) (c:=j2) rfl (by kernel_rfl) (by kernel_rfl) (by kernel_rfl) (by kernel_rfl) ?_;refine zp _ _ _ fun g=>?_
 simp[ah,ai,ae,af,ad, *,sZ,hu.r,hq.r]
 refine Rr (gr:=gr) hu hq hql hul us 0 _ _ _ rfl (by omega) rfl ?_ ?_ ?_
 ·simp(maxDischargeDepth:=12) [aq,an,Fr.nil,aD,ah,ai,ae,af,ar,ao,ad, *]
 ·simp(maxDischargeDepth:=12) [aq,an,Fr.nil,aD,ah,ai,ae,af,ar,ao,ad, *]
 rintro y H' rfl
 simp only[Oe (f:=17) (by rfl),bK,P2,Option.some.injEq]
 rw[DO,UQ,UQ]
 have e (n:Nat):decide ((n:Int)≤8)=decide (n≤8):=by congr 1;exact propext (by omega)
 simp only[e,Bool.and_assoc]
@[simp] theorem E4(a:UInt8)(b:UInt32):bj env 111 [.agg [xu,xq,aI gr],.agg [a8 a,aF b]]=some (aI (u7 us qs gr a)):=by
 refine aJ (fn:=Tryz.f111) (c:=sS) rfl (by kernel_rfl) (by kernel_rfl) (by kernel_rfl) (by kernel_rfl) ?_;refine zn _ _ _ _ fun g=>?_
 simp[ah,ai,ae,af,ad, *,sX,hu.r,hq.r,wJ hu hq hql hul,u7]
end
end Go.Proofs.YtdbiffjdomokfaaGreat
