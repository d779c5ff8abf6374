/-
  Labels: what the functions answer. No statement of a seat is proved here.
-/
import Derived.Test.YtdbiffjdomokfaaGreatAuVc7
import Derived.Test.YtdbiffjdomokfaaGreatAuVc4
import Derived.Test.YtdbiffjdomokfaaGreatAuVc1
import Derived.Test.YtdbiffjdomokfaaGreatMLePol
import Derived.Test.YtdbiffjdomokfaaGreatAbsRules
set_option linter.unusedVariables false
set_option linter.unusedSimpArgs false
set_option linter.unusedSectionVars false
set_option linter.unnecessarySimpa false
set_option maxRecDepth 100000
namespace Go.Proofs.YtdbiffjdomokfaaGreat
open Go.Ab
attribute [local simp] bD bp cV lj
@[simp] theorem Lo(a:UInt8)(b:UInt32):bj env 33 [.agg [a8 a,aG b]]=some (aI (xA a)):=by
 refine aK (fn:=Tryz.f33) (c:=qC) rfl (by kernel_rfl) (by kernel_rfl) (by kernel_rfl) (by kernel_rfl) ?_;refine uO _ _ _ fun g=>?_
 simp[ah,ai,ae,af,ad, *,qL]
 repeat' ((first | refine kO (fun h=>?_) (fun h=>?_) | refine kC (fun h=>?_) (fun h=>?_) | refine kD (fun h=>?_) (fun h=>?_) | refine kA (fun h=>?_) (fun h=>?_) | refine kB (fun h=>?_) (fun h=>?_))<;>(try simp only[decide_eq_true_eq,decide_eq_false_iff_not,Bool.not_eq_true',Bool.not_eq_false',Bool.and_eq_true,Bool.or_eq_true]at h)<;>(try simp[ah,ai,ae,af,ad, *,xA]))
@[simp] theorem BZ(a:UInt8)(b:UInt32)(c:UInt8)(d:UInt32):bj env 20 [.agg [a8 a,aG b],.agg [a8 c,aG d]]=some (aB (Tp a b c d)):=by
 refine aK (fn:=Tryz.f20) (c:=tO) rfl (by kernel_rfl) (by kernel_rfl) (by kernel_rfl) (by kernel_rfl) ?_;refine xY _ _ _ _ fun g=>?_
 simp[ah,ai,ae,af,ad, *,tX]
 repeat' ((first | refine kO (fun h=>?_) (fun h=>?_) | refine kC (fun h=>?_) (fun h=>?_) | refine kD (fun h=>?_) (fun h=>?_) | refine kA (fun h=>?_) (fun h=>?_) | refine kB (fun h=>?_) (fun h=>?_))<;>(try simp only[decide_eq_true_eq,decide_eq_false_iff_not,Bool.not_eq_true',Bool.not_eq_false',Bool.and_eq_true,Bool.or_eq_true]at h)<;>(try simp[ah,ai,ae,af,ad, *,Tp]))
@[simp] theorem Zu(a:UInt8)(b:UInt32)(c:UInt8)(d:UInt32):bj env 67 [.agg [a8 a,aG b],.agg [a8 c,aG d]]=some (aB (J5 a b c d)):=by
 refine aK (fn:=Tryz.f67) (c:=vI) rfl (by kernel_rfl) (by kernel_rfl) (by kernel_rfl) (by kernel_rfl) ?_;refine BF _ _ _ _ fun g=>?_
 simp[ah,ai,ae,af,ad, *,vQ,kE,lZ,gb]
 repeat' ((first | refine kO (fun h=>?_) (fun h=>?_) | refine kC (fun h=>?_) (fun h=>?_) | refine kD (fun h=>?_) (fun h=>?_) | refine kA (fun h=>?_) (fun h=>?_) | refine kB (fun h=>?_) (fun h=>?_))<;>(try simp only[decide_eq_true_eq,decide_eq_false_iff_not,Bool.not_eq_true',Bool.not_eq_false',Bool.and_eq_true,Bool.or_eq_true]at h)<;>(try simp[ah,ai,ae,af,ad, *,J5,kE,lZ,gb]))
@[simp] theorem Qd:bj env 91 []=some (.agg [a8 0,aG 0]):=by
 refine aK (fn:=Tryz.f91) (c:=qB) rfl (by kernel_rfl) (by kernel_rfl) (by kernel_rfl) (by kernel_rfl) ?_;refine uN _ _ fun g=>?_
 simp[ah,ai,ae,af,ad, *,qK,kE]
@[simp] theorem aaw(n m:Int):bj env 65 [aI n,aI m]=some (aB (decide (0≤n)&&decide (n≤m))):=by
 refine aK (fn:=Tryz.f65) (c:=vF) rfl (by kernel_rfl) (by kernel_rfl) (by kernel_rfl) (by kernel_rfl) ?_;refine BC _ _ _ _ fun g=>?_
 simp[ah,ai,ae,af,ad, *,vN]
 repeat' ((first | refine kO (fun h=>?_) (fun h=>?_) | refine kC (fun h=>?_) (fun h=>?_) | refine kD (fun h=>?_) (fun h=>?_) | refine kA (fun h=>?_) (fun h=>?_) | refine kB (fun h=>?_) (fun h=>?_))<;>(try simp only[decide_eq_true_eq,decide_eq_false_iff_not,Bool.not_eq_true',Bool.not_eq_false',Bool.and_eq_true,Bool.or_eq_true]at h)<;>(try simp[ah,ai,ae,af,ad, *]))
@[simp] theorem Zs(v:UInt8)(c:UInt32)(ok:Bool):bj env 66 [.agg [a8 v,aG c,aB ok]]=some (aB (F2 v c ok)):=by
 refine aK (fn:=Tryz.f66) (c:=ur) rfl (by kernel_rfl) (by kernel_rfl) (by kernel_rfl) (by kernel_rfl) ?_;refine AT _ _ _ fun g=>?_
 simp[ah,ai,ae,af,ad, *,uC,kE,lZ,gb]
 repeat' ((first | refine kO (fun h=>?_) (fun h=>?_) | refine kC (fun h=>?_) (fun h=>?_) | refine kD (fun h=>?_) (fun h=>?_) | refine kA (fun h=>?_) (fun h=>?_) | refine kB (fun h=>?_) (fun h=>?_))<;>(try simp only[decide_eq_true_eq,decide_eq_false_iff_not,Bool.not_eq_true',Bool.not_eq_false',Bool.and_eq_true,Bool.or_eq_true]at h)<;>(try simp[ah,ai,ae,af,ad, *,F2,kE,lZ,gb]))
end Go.Proofs.YtdbiffjdomokfaaGreat
namespace Go.Proofs.YtdbiffjdomokfaaGreat
open Go.Ab
attribute [local simp] bD bp cV lj
def rz(b:Bool):List Bool→Nat→Int
 | [],_ => -1
 | x :: l,k=>if b=x then k else rz b l (k+1)
theorem QS(b:Bool) : ∀(l:List Bool)(k:Nat),(0≤rz b l k↔l.contains b=true):=by
 intro l
 induction l with
 | nil=>intro k;simp[rz]
 | cons x l ih =>
  intro k
  unfold rz
  split
  ·rename_i e;subst e;simp
  ·rename_i e
   rw[ih (k+1)]
   have:(b == x)=false:=by cases b<;>cases x<;>simp_all
   simp only[List.contains_cons,this,Bool.false_or]
section
variable{x0:AV}{l:List Bool}(hx:Sl 1 (Ye l) x0)(hl:l.length<4611686018427387904)
include hx hl
theorem JA{b:Bool}{Q:AV→ab→Prop} : ∀(s:List Bool)(k:Nat)(i:Int)(H:ab),l.drop k=s→k≤l.length→i=k→(∀y H',y=aI (rz b s k)→Q y H') →
 bT env Tryz.f110 0 eM [(8,aI i),(0,x0),(1,aB b),(7,aI l.length)] H Q:=by
 intro s
 induction s with
 | nil =>
  rintro k i H hs hk rfl h
  obtain rfl:=drop_nil hs hk
  refine jF _ _ _ _ _ _ fun g=>?_
  simp[ah,ai,ae,af,ad, *,gj]
  exact h _ H rfl
 | cons a s ih =>
  rintro k i H hs hk rfl h
  obtain⟨hlt,hg,hs',hg'⟩:=drop_cons hs
  refine jF _ _ _ _ _ _ fun g=>?_
  simp[ah,ai,ae,af,ad, *,gj,hx.idx,hlt,hg,IntWalk.i64_in ((k:Int)+1) (by omega)]
  refine Uf (fun e=>?_) (fun e=>?_)
  ·exact h _ _ (by simp[rz,e])
  ·simp[IntWalk.i64_in ((k:Int)+1) (by omega)]
   exact ih (k+1) _ _ hs' (by omega) (by omega) (fun y H' ey=>h y H' (by simp[rz,e,ey]))
@[simp] theorem Qe(b:Bool):bj env 110 [x0,aB b]=some (aI (rz b l 0)):=by
 refine aK (fn:=Tryz.f110) (c:=gV) rfl (by kernel_rfl) (by kernel_rfl) (by kernel_rfl) (by kernel_rfl) ?_;refine pC _ _ _ _ fun g=>?_
 simp[ah,ai,ae,af,ad, *,kS,hx.len]
 exact JA hx hl l 0 _ _ rfl (by omega) (by simp) (fun y H' e=>by simp[e])
@[simp] theorem I5(b:Bool):bj env 90 [x0,aB b]=some (aB (l.contains b)):=by
 refine aK (fn:=Tryz.f90) (c:=jB) rfl (by kernel_rfl) (by kernel_rfl) (by kernel_rfl) (by kernel_rfl) ?_;refine oy _ _ _ _ fun g=>?_
 have:=QS b l 0
 simp[ah,ai,ae,af,ad, *,jD,hx.r,Qe hx hl,this]
@[simp] theorem Nh:bj env 64 [x0]=some (aB (l.all id)):=by
 refine aK (fn:=Tryz.f64) (c:=wY) rfl (by kernel_rfl) (by kernel_rfl) (by kernel_rfl) (by kernel_rfl) ?_;refine Dn _ _ _ fun g=>?_
 have:(!l.contains false)=l.all id:=by
  clear hx hl
  induction l with
  | nil=>rfl
  | cons b l ih=>cases b<;>simp_all
 simp[ah,ai,ae,af,ad, *,xe,hx.r,I5 hx hl,←this]
end
@[simp] theorem aay(a b c:Bool):bj env 64 [.cw 1 [aB a,aB b,aB c] (some 3)]=some (aB (a&&(b&&c))):=by
 have:=Nh (l:=[a,b,c]) (x0 := .cw 1 [aB a,aB b,aB c] (some 3)) (.inr ⟨_,rfl,by simp⟩) (by simp);simpa using this
@[simp] theorem aax(a b c d e:Bool):bj env 64 [.cw 1 [aB a,aB b,aB c,aB d,aB e] (some 5)]=some (aB (a&&(b&&(c&&(d&&e))))):=by
 have:=Nh (l:=[a,b,c,d,e]) (x0 := .cw 1 [aB a,aB b,aB c,aB d,aB e] (some 5)) (.inr ⟨_,rfl,by simp⟩) (by simp);simpa using this
theorem Ir{x9:AV}{Q:AV→ab→Prop}{l:List bu}(hx:Sl 5 (eY l) x9)(hl:l.length<4611686018427387904) : ∀(s:List bu)(k:Nat)(i n:Int)(H:ab),l.drop k=s→k≤l.length→i=k →
 (∀y H',y=aI (sV n s)→Q y H') →
 bT env Tryz.f68 0 ku [(11,aI i),(3,aI n),(9,x9),(10,aI l.length)] H Q:=by
 intro s
 induction s with
 | nil =>
  rintro k i n H hs hk rfl h
  obtain rfl:=drop_nil hs hk
  refine qb _ _ _ _ _ _ fun g=>?_
  simp[ah,ai,ae,af,ad, *,mY]
  exact h _ H rfl
 | cons a s ih =>
  rintro k i n H hs hk rfl h
  obtain⟨hlt,hg,hs',hg'⟩:=drop_cons hs
  refine qb _ _ _ _ _ _ fun g=>?_
  simp[ah,ai,ae,af,ad, *,mY,hx.idx,hlt,hg,bu.enc,IntWalk.i64_in ((k:Int)+1) (by omega)]
  exact ih (k+1) _ _ _ hs' (by omega) (by omega) h
section
variable{xu xq:AV}{us:List Clear}{qs:List bu}{gr:Int}(hu:Sl 3 (eW us) xu)(hq:Sl 5 (eY qs) xq)(hql:qs.length<4611686018427387904)(hul:us.length<4611686018427387904)
include hu hq hql
@[simp] theorem Lg:bj env 68 [.agg [xu,xq,aI gr]]=some (aI (sV gr qs)):=by
 refine aK (fn:=Tryz.f68) (c:=oT) rfl (by kernel_rfl) (by kernel_rfl) (by kernel_rfl) (by kernel_rfl) ?_;refine zE _ _ _ fun g=>?_
 simp[ah,ai,ae,af,ad, *,s9,hu.r,hq.r]
 exact Ir hq hql qs 0 _ _ _ rfl (by omega) rfl (fun y H' e=>by simp[e])
theorem Rg{x85:AV}{r1:Ref}{may:Bool}{Q:AV→ab→Prop}{l:List bu}(hx:Sl 5 (eY l) x85)(hl:l.length<4611686018427387904) : ∀(s:List bu)(k:Nat)(i n:Int)(H:ab),l.drop k=s→k≤l.length→i=k →
 Fr H→H.get r1=some ⟨3,[.agg [xu,xq,aI gr]],false,false⟩ →
 (∀y H',y=aI (bad (may&&(!decide (2048<sV gr qs) && !decide (8192<cellsOf n s))))→Q y H') →
 bT env Tryz.f41 0 ky [(87,aI i),(8,aI n),(85,x85),(1,.ptr r1 0 0),(3,aB may),(86,aI l.length)] H Q:=by
 intro s
 induction s with
 | nil =>
  rintro k i n H hs hk rfl hF hB h
  obtain rfl:=drop_nil hs hk
  refine qc _ _ _ _ _ _ _ _ fun g=>?_
  have hb:=Lg (gr:=gr) hu hq hql
  simp[ah,ai,ae,af,ad, *,mZ]
  repeat' ((first | refine kO (fun h=>?_) (fun h=>?_) | refine kC (fun h=>?_) (fun h=>?_) | refine kD (fun h=>?_) (fun h=>?_) | refine kA (fun h=>?_) (fun h=>?_) | refine kB (fun h=>?_) (fun h=>?_))<;>(try simp only[decide_eq_true_eq,decide_eq_false_iff_not,Bool.not_eq_true',Bool.not_eq_false',Bool.and_eq_true,Bool.or_eq_true]at h)<;>(try simp[ah,ai,ae,af,ad, *,hu.r,hq.r,hb,bad,cellsOf]))
 | cons a s ih =>
  rintro k i n H hs hk rfl hF hB h
  obtain⟨hlt,hg,hs',hg'⟩:=drop_cons hs
  refine qc _ _ _ _ _ _ _ _ fun g=>?_
  simp[ah,ai,ae,af,ad, *,mZ,hx.idx,hlt,hg,bu.enc,IntWalk.i64_in ((k:Int)+1) (by omega)]
  exact ih (k+1) _ _ _ hs' (by omega) (by omega) (by simp(maxDischargeDepth:=12) [aq,an,Fr.nil,aD,ah,ai,ae,af,ar,ao,ad, *]) (by simp(maxDischargeDepth:=12) [aq,an,Fr.nil,aD,ah,ai,ae,af,ar,ao,ad, *]) h
def Pt(may:Bool)(p:Option bu):List bu→Bool
 | []=>may
 | q :: s=>Pt (may&&(Qq q&&(match p with | none=>true | some p=>Fq p q))) (some q) s
theorem T9{r1:Ref}{Q:AV→ab→Prop} : ∀(s:List bu)(k:Nat)(i:Int)(may:Bool)(H:ab),qs.drop k=s→k≤qs.length→i=k →
 Fr H→H.get r1=some ⟨3,[.agg [xu,xq,aI gr]],false,false⟩ →
 (∀y H',y=aI (bad (Pt may (if k=0 then none else qs[k - 1]?) s&&(!decide (2048<sV gr qs) && !decide (8192<cellsOf 0 (qs.take 8)))))→Q y H') →
 bT env Tryz.f41 0 k8 [(40,aI i),(1,.ptr r1 0 0),(3,aB may),(38,xq),(39,aI qs.length)] H Q:=by
 intro s
 induction s with
 | nil =>
  rintro k i may H hs hk rfl hF hB h
  obtain rfl:=drop_nil hs hk
  refine qV _ _ _ _ _ _ _ fun g=>?_
  have hmin:(if (8:Int)<qs.length then (8:Int) else qs.length)=((min 8 qs.length:Nat):Int):=by split<;>omega
  have hs:=BV (P:=env.P) (t:=27) (z:=5) (by simp) H.get hq (n:=((min 8 qs.length:Nat):Int)) (by omega) (by simp;omega)
  obtain⟨y,ey,sy⟩:=hs
  have ht:(eY qs).take (min 8 qs.length)=eY (qs.take 8):=by
   rw[←List.map_take];congr 1
   rcases Nat.le_total 8 qs.length with h | h
   ·rw[Nat.min_eq_left h]
   ·rw[Nat.min_eq_right h,List.take_of_length_le (Nat.le_refl _),List.take_of_length_le h]
  rw[Int.toNat_natCast,ht]at sy
  simp[ah,ai,ae,af,ad, *,gP,hB,hq.len,hmin,ey,sy.len]
  have hl8:(qs.take 8).length=min 8 qs.length:=List.length_take
  rw[←hl8]
  exact Rg hu hq hql sy (by omega) _ 0 0 0 H rfl (by omega) rfl hF hB (fun y H' e=>h y H' (by simpa [Pt] using e))
 | cons a s ih =>
  rintro k i may H hs hk rfl hF hB h
  obtain⟨hlt,hg,hs',hg'⟩:=drop_cons hs
  have hi:=ih (k+1)
  refine qV _ _ _ _ _ _ _ fun g=>?_
  cases k with
  | zero =>
   have e1:IntKind.i64.wrap 1=1:=rfl
   cases may
   ·simp[ah,ai,ae,af,ad, *,gP,hq.idx,hlt,hg,bu.enc,e1]
    exact hi _ _ _ hs' (by omega) rfl (by simp(maxDischargeDepth:=12) [aq,an,Fr.nil,aD,ah,ai,ae,af,ar,ao,ad, *]) (by simp(maxDischargeDepth:=12) [aq,an,Fr.nil,aD,ah,ai,ae,af,ar,ao,ad, *]) (fun y H' e=>h y H' (by simpa [Pt,hg'] using e))
   ·simp[ah,ai,ae,af,ad, *,gP,hq.idx,hlt,hg,bu.enc,e1]
    exact hi _ _ _ hs' (by omega) rfl (by simp(maxDischargeDepth:=12) [aq,an,Fr.nil,aD,ah,ai,ae,af,ar,ao,ad, *]) (by simp(maxDischargeDepth:=12) [aq,an,Fr.nil,aD,ah,ai,ae,af,ar,ao,ad, *]) (fun y H' e=>h y H' (by simpa [Pt,hg',Qq] using e))
  | succ k =>
   have e1:IntKind.i64.wrap ((k:Int)+1+1)=(k:Int)+1+1:=IntWalk.i64_in _ (by omega)
   have e2:IntKind.i64.wrap (k:Int)=k:=IntWalk.i64_in _ (by omega)
   have e3 : ¬(k:Int)<0:=by omega
   have e4 : ¬(k:Int)+1=0:=by omega
   have e5:k<qs.length:=by omega
   have e6:(k:Int)+1<qs.length:=by omega
   have e7:(0:Int)≤k+1:=by omega
   cases may
   ·simp[ah,ai,ae,af,ad, *,gP,hq.idx,hlt,hg,bu.enc,e1,e2,e3,e4,e5,e6,e7]
    exact hi _ _ _ hs' (by omega) (by simp) (by simp(maxDischargeDepth:=12) [aq,an,Fr.nil,aD,ah,ai,ae,af,ar,ao,ad, *]) (by simp(maxDischargeDepth:=12) [aq,an,Fr.nil,aD,ah,ai,ae,af,ar,ao,ad, *]) (fun y H' e=>h y H' (by simpa [Pt,hg'] using e))
   ·simp[ah,ai,ae,af,ad, *,gP,hq.idx,hlt,hg,bu.enc,e1,e2,e3,e4,e5,e6,e7,hB,ah hF (q:=r1)]
    exact hi _ _ _ hs' (by omega) (by simp) (by simp(maxDischargeDepth:=12) [aq,an,Fr.nil,aD,ah,ai,ae,af,ar,ao,ad, *]) (by simp(maxDischargeDepth:=12) [aq,an,Fr.nil,aD,ah,ai,ae,af,ar,ao,ad, *]) (fun y H' e=>h y H' (by simpa [Pt,hg',Qq,Fq,List.getElem?_eq_getElem e5,Bool.and_assoc] using e))
omit hu hq hql in
theorem QU : ∀(s:List bu)(may:Bool)(p:Option bu),Pt may p s=(may&&LB p s):=by
 intro s
 induction s with
 | nil=>intro may p;simp[Pt,LB]
 | cons q s ih=>intro may p;cases p<;>simp[Pt,LB,ih,Bool.and_assoc]
include hul
theorem Ua{r1:Ref}{Q:AV→ab→Prop} : ∀(s:List Clear)(k:Nat)(i:Int)(may:Bool)(H:ab),us.drop k=s→k≤us.length→i=k →
 Fr H→H.get r1=some ⟨3,[.agg [xu,xq,aI gr]],false,false⟩ →
 (∀y H',y=aI (bad (((may&&s.all fun c=>F2 c.lv c.cats c.ok)&&LB none qs)&&(!decide (2048<sV gr qs) && !decide (8192<cellsOf 0 (qs.take 8)))))→Q y H') →
 bT env Tryz.f41 0 k9 [(27,aI i),(3,aB may),(25,xu),(1,.ptr r1 0 0),(26,aI us.length)] H Q:=by
 intro s
 induction s with
 | nil =>
  rintro k i may H hs hk rfl hF hB hQ
  obtain rfl:=drop_nil hs hk
  refine qW _ _ _ _ _ _ _ fun g=>?_
  simp[ah,ai,ae,af,ad, *,oh,hB,hq.len]
  exact T9 hu hq hql qs 0 0 may H rfl (by omega) rfl hF hB (fun y H' e=>hQ y H' (by simpa [QU] using e))
 | cons a s ih =>
  rintro k i may H hs hk rfl hF hB hQ
  obtain⟨hlt,hg,hs',hg'⟩:=drop_cons hs
  refine qW _ _ _ _ _ _ _ fun g=>?_
  simp[ah,ai,ae,af,ad, *,oh,hu.idx,hlt,hg,Clear.enc]
  repeat' ((first | refine kO (fun h=>?_) (fun h=>?_) | refine kC (fun h=>?_) (fun h=>?_) | refine kD (fun h=>?_) (fun h=>?_) | refine kA (fun h=>?_) (fun h=>?_) | refine kB (fun h=>?_) (fun h=>?_))<;>(try simp only[decide_eq_true_eq,decide_eq_false_iff_not,Bool.not_eq_true',Bool.not_eq_false',Bool.and_eq_true,Bool.or_eq_true]at h)<;>(try simp[ah,ai,ae,af,ad, *,hu.idx,hlt,hg,Clear.enc]))
  ·simp[IntWalk.i64_in ((k:Int)+1) (by omega)]
   exact ih (k+1) _ _ _ hs' (by omega) (by simp) (by simp(maxDischargeDepth:=12) [aq,an,Fr.nil,aD,ah,ai,ae,af,ar,ao,ad, *]) (by simp(maxDischargeDepth:=12) [aq,an,Fr.nil,aD,ah,ai,ae,af,ar,ao,ad, *]) (fun y H' e=>hQ y H' (by simp[*,Bool.and_assoc]))
  ·simp[IntWalk.i64_in ((k:Int)+1) (by omega)]
   exact ih (k+1) _ _ _ hs' (by omega) (by simp) (by simp(maxDischargeDepth:=12) [aq,an,Fr.nil,aD,ah,ai,ae,af,ar,ao,ad, *]) (by simp(maxDischargeDepth:=12) [aq,an,Fr.nil,aD,ah,ai,ae,af,ar,ao,ad, *]) (fun y H' e=>hQ y H' (by simp[*,Bool.and_assoc]))
@[simp] theorem yr:bj env 41 [.agg [xu,xq,aI gr]]=some (aI (bad (DI us qs gr))):=by
 refine aK (fn:=Tryz.f41) (c:=kP) rfl (by kernel_rfl) (by kernel_rfl) (by kernel_rfl) (by kernel_rfl) ?_;refine AX _ _ _ fun g=>?_
 simp[ah,ai,ae,af,ad, *,uF,hu.r,hq.r]
 refine Ua (gr:=gr) hu hq hql hul us 0 _ _ _ rfl (by omega) rfl ?_ ?_ ?_
 ·simp(maxDischargeDepth:=12) [aq,an,Fr.nil,aD,ah,ai,ae,af,ar,ao,ad, *]
 ·simp(maxDischargeDepth:=12) [aq,an,Fr.nil,aD,ah,ai,ae,af,ar,ao,ad, *]
 rintro y H' rfl
 simp only[QT (f:=17) (by rfl),bD,SA,Option.some.injEq]
 rw[DI,Xq,Xq]
 have e (n:Nat):decide ((n:Int)≤8)=decide (n≤8):=by congr 1;exact propext (by omega)
 simp only[e,Bool.and_assoc]
@[simp] theorem GK(a:UInt8)(b:UInt32):bj env 111 [.agg [xu,xq,aI gr],.agg [a8 a,aG b]]=some (aI (wP us qs gr a)):=by
 refine aK (fn:=Tryz.f111) (c:=uv) rfl (by kernel_rfl) (by kernel_rfl) (by kernel_rfl) (by kernel_rfl) ?_;refine AU _ _ _ _ fun g=>?_
 simp[ah,ai,ae,af,ad, *,uD,hu.r,hq.r,yr hu hq hql hul,wP]
end
end Go.Proofs.YtdbiffjdomokfaaGreat
