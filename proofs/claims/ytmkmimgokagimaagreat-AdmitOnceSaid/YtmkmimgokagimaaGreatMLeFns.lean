/-
  Labels: what the functions answer. No statement of a seat is proved here.
-/
import Derived.Test.YtmkmimgokagimaaGreatLeVc7
import Derived.Test.YtmkmimgokagimaaGreatLeVc4
import Derived.Test.YtmkmimgokagimaaGreatLeVc1
import Derived.Test.YtmkmimgokagimaaGreatMLePol
import Derived.Test.YtmkmimgokagimaaGreatAbsRules
set_option linter.unusedVariables false
set_option linter.unusedSimpArgs false
set_option linter.unusedSectionVars false
set_option linter.unnecessarySimpa false
set_option maxRecDepth 100000
namespace Go.Proofs.YtmkmimgokagimaaGreat
open Go.Ab
attribute [local simp] bj aL keep thr
@[simp] theorem RM(a:UInt8)(b:UInt32):limf env 76 [.agg [a8 a,a32 b]]=some (aI (zJ a)):=by
 refine aw (fn:=Tryz.f76) (c:=oC) rfl (by kernel_rfl) (by kernel_rfl) (by kernel_rfl) (by kernel_rfl) ?_;refine tf _ _ _ fun g=>?_
 simp[af,ah,ad,ae,ab, *,oJ]
 repeat' ((first | refine nH (fun h=>?_) (fun h=>?_) | refine lu (fun h=>?_) (fun h=>?_) | refine lx (fun h=>?_) (fun h=>?_) | refine lg (fun h=>?_) (fun h=>?_) | refine lj (fun h=>?_) (fun h=>?_))<;>(try simp only[decide_eq_true_eq,decide_eq_false_iff_not,Bool.not_eq_true',Bool.not_eq_false',Bool.and_eq_true,Bool.or_eq_true]at h)<;>(try simp[af,ah,ad,ae,ab, *,zJ]))
@[simp] theorem XJ(a:UInt8)(b:UInt32)(c:UInt8)(d:UInt32):limf env 47 [.agg [a8 a,a32 b],.agg [a8 c,a32 d]]=some (aB (leqB a b c d)):=by
 refine aw (fn:=Tryz.f47) (c:=rR) rfl (by kernel_rfl) (by kernel_rfl) (by kernel_rfl) (by kernel_rfl) ?_;refine xi _ _ _ _ fun g=>?_
 simp[af,ah,ad,ae,ab, *,sn]
 repeat' ((first | refine nH (fun h=>?_) (fun h=>?_) | refine lu (fun h=>?_) (fun h=>?_) | refine lx (fun h=>?_) (fun h=>?_) | refine lg (fun h=>?_) (fun h=>?_) | refine lj (fun h=>?_) (fun h=>?_))<;>(try simp only[decide_eq_true_eq,decide_eq_false_iff_not,Bool.not_eq_true',Bool.not_eq_false',Bool.and_eq_true,Bool.or_eq_true]at h)<;>(try simp[af,ah,ad,ae,ab, *,leqB]))
@[simp] theorem Wu(a:UInt8)(b:UInt32)(c:UInt8)(d:UInt32):limf env 169 [.agg [a8 a,a32 b],.agg [a8 c,a32 d]]=some (aB (Kx a b c d)):=by
 refine aw (fn:=Tryz.f169) (c:=tI) rfl (by kernel_rfl) (by kernel_rfl) (by kernel_rfl) (by kernel_rfl) ?_;refine AI _ _ _ _ fun g=>?_
 simp[af,ah,ad,ae,ab, *,tQ,lz,eqA,eqFs]
 repeat' ((first | refine nH (fun h=>?_) (fun h=>?_) | refine lu (fun h=>?_) (fun h=>?_) | refine lx (fun h=>?_) (fun h=>?_) | refine lg (fun h=>?_) (fun h=>?_) | refine lj (fun h=>?_) (fun h=>?_))<;>(try simp only[decide_eq_true_eq,decide_eq_false_iff_not,Bool.not_eq_true',Bool.not_eq_false',Bool.and_eq_true,Bool.or_eq_true]at h)<;>(try simp[af,ah,ad,ae,ab, *,Kx,lz,eqA,eqFs]))
@[simp] theorem Ov:limf env 185 []=some (.agg [a8 0,a32 0]):=by
 refine aw (fn:=Tryz.f185) (c:=oB) rfl (by kernel_rfl) (by kernel_rfl) (by kernel_rfl) (by kernel_rfl) ?_;refine te _ _ fun g=>?_
 simp[af,ah,ad,ae,ab, *,oI,lz]
@[simp] theorem XG(n m:Int):limf env 167 [aI n,aI m]=some (aB (decide (0≤n)&&decide (n≤m))):=by
 refine aw (fn:=Tryz.f167) (c:=tD) rfl (by kernel_rfl) (by kernel_rfl) (by kernel_rfl) (by kernel_rfl) ?_;refine AD _ _ _ _ fun g=>?_
 simp[af,ah,ad,ae,ab, *,tL]
 repeat' ((first | refine nH (fun h=>?_) (fun h=>?_) | refine lu (fun h=>?_) (fun h=>?_) | refine lx (fun h=>?_) (fun h=>?_) | refine lg (fun h=>?_) (fun h=>?_) | refine lj (fun h=>?_) (fun h=>?_))<;>(try simp only[decide_eq_true_eq,decide_eq_false_iff_not,Bool.not_eq_true',Bool.not_eq_false',Bool.and_eq_true,Bool.or_eq_true]at h)<;>(try simp[af,ah,ad,ae,ab, *]))
@[simp] theorem We(v:UInt8)(c:UInt32)(ok:Bool):limf env 168 [.agg [a8 v,a32 c,aB ok]]=some (aB (GF v c ok)):=by
 refine aw (fn:=Tryz.f168) (c:=rM) rfl (by kernel_rfl) (by kernel_rfl) (by kernel_rfl) (by kernel_rfl) ?_;refine yJ _ _ _ fun g=>?_
 simp[af,ah,ad,ae,ab, *,sh,lz,eqA,eqFs]
 repeat' ((first | refine nH (fun h=>?_) (fun h=>?_) | refine lu (fun h=>?_) (fun h=>?_) | refine lx (fun h=>?_) (fun h=>?_) | refine lg (fun h=>?_) (fun h=>?_) | refine lj (fun h=>?_) (fun h=>?_))<;>(try simp only[decide_eq_true_eq,decide_eq_false_iff_not,Bool.not_eq_true',Bool.not_eq_false',Bool.and_eq_true,Bool.or_eq_true]at h)<;>(try simp[af,ah,ad,ae,ab, *,GF,lz,eqA,eqFs]))
end Go.Proofs.YtmkmimgokagimaaGreat
namespace Go.Proofs.YtmkmimgokagimaaGreat
open Go.Ab
attribute [local simp] bj aL keep thr
def rE(b:Bool):List Bool→Nat→Int
 | [],_ => -1
 | x :: l,k=>if b=x then k else rE b l (k+1)
theorem O3(b:Bool) : ∀(l:List Bool)(k:Nat),(0≤rE b l k↔l.contains b=true):=by
 intro l
 induction l with
 | nil=>intro k;simp[rE]
 | cons x l ih =>
  intro k
  unfold rE
  split
  ·rename_i e;subst e;simp
  ·rename_i e
   rw[ih (k+1)]
   have:(b == x)=false:=by cases b<;>cases x<;>simp_all
   simp only[List.contains_cons,this,Bool.false_or]
section
variable{x0:AV}{l:List Bool}(hx:Sl 1 (W8 l) x0)(hl:l.length<4611686018427387904)
include hx hl
theorem Hp{b:Bool}{Q:AV→Heap→Prop} : ∀(s:List Bool)(k:Nat)(i:Int)(H:Heap),l.drop k=s→k≤l.length→i=k→(∀y H',y=aI (rE b s k)→Q y H') →
 GoL env Tryz.f227 0 dg [(8,aI i),(0,x0),(1,aB b),(7,aI l.length)] H Q:=by
 intro s
 induction s with
 | nil =>
  rintro k i H hs hk rfl h
  obtain rfl:=drop_nil hs hk
  refine gJ _ _ _ _ _ _ fun g=>?_
  simp[af,ah,ad,ae,ab, *,eC]
  exact h _ H rfl
 | cons a s ih =>
  rintro k i H hs hk rfl h
  obtain⟨hlt,hg,hs',hg'⟩:=drop_cons hs
  refine gJ _ _ _ _ _ _ fun g=>?_
  simp[af,ah,ad,ae,ab, *,eC,hx.idx,hlt,hg,IntWalk.i64_in ((k:Int)+1) (by omega)]
  refine Tc (fun e=>?_) (fun e=>?_)
  ·exact h _ _ (by simp[rE,e])
  ·simp[IntWalk.i64_in ((k:Int)+1) (by omega)]
   exact ih (k+1) _ _ hs' (by omega) (by omega) (fun y H' ey=>h y H' (by simp[rE,e,ey]))
@[simp] theorem Ow(b:Bool):limf env 227 [x0,aB b]=some (aI (rE b l 0)):=by
 refine aw (fn:=Tryz.f227) (c:=fa) rfl (by kernel_rfl) (by kernel_rfl) (by kernel_rfl) (by kernel_rfl) ?_;refine mR _ _ _ _ fun g=>?_
 simp[af,ah,ad,ae,ab, *,iG,hx.len]
 exact Hp hx hl l 0 _ _ rfl (by omega) (by simp) (fun y H' e=>by simp[e])
@[simp] theorem GY(b:Bool):limf env 212 [x0,aB b]=some (aB (l.contains b)):=by
 refine aw (fn:=Tryz.f212) (c:=gz) rfl (by kernel_rfl) (by kernel_rfl) (by kernel_rfl) (by kernel_rfl) ?_;refine lV _ _ _ _ fun g=>?_
 have:=O3 b l 0
 simp[af,ah,ad,ae,ab, *,gD,hx.r,Ow hx hl,this]
@[simp] theorem MS:limf env 166 [x0]=some (aB (l.all id)):=by
 refine aw (fn:=Tryz.f166) (c:=vt) rfl (by kernel_rfl) (by kernel_rfl) (by kernel_rfl) (by kernel_rfl) ?_;refine BV _ _ _ fun g=>?_
 have:(!l.contains false)=l.all id:=by
  clear hx hl
  induction l with
  | nil=>rfl
  | cons b l ih=>cases b<;>simp_all
 simp[af,ah,ad,ae,ab, *,vG,hx.r,GY hx hl,←this]
end
@[simp] theorem XI(a b c:Bool):limf env 166 [.isl 1 [aB a,aB b,aB c] (some 3)]=some (aB (a&&(b&&c))):=by
 have:=MS (l:=[a,b,c]) (x0 := .isl 1 [aB a,aB b,aB c] (some 3)) (.inr ⟨_,rfl,by simp⟩) (by simp);simpa using this
@[simp] theorem XH(a b c d e:Bool):limf env 166 [.isl 1 [aB a,aB b,aB c,aB d,aB e] (some 5)]=some (aB (a&&(b&&(c&&(d&&e))))):=by
 have:=MS (l:=[a,b,c,d,e]) (x0 := .isl 1 [aB a,aB b,aB c,aB d,aB e] (some 5)) (.inr ⟨_,rfl,by simp⟩) (by simp);simpa using this
theorem Fz{x9:AV}{Q:AV→Heap→Prop}{l:List Quota}(hx:Sl 5 (eQ l) x9)(hl:l.length<4611686018427387904) : ∀(s:List Quota)(k:Nat)(i n:Int)(H:Heap),l.drop k=s→k≤l.length→i=k →
 (∀y H',y=aI (sV n s)→Q y H') →
 GoL env Tryz.f103 0 iy [(11,aI i),(3,aI n),(9,x9),(10,aI l.length)] H Q:=by
 intro s
 induction s with
 | nil =>
  rintro k i n H hs hk rfl h
  obtain rfl:=drop_nil hs hk
  refine nJ _ _ _ _ _ _ fun g=>?_
  simp[af,ah,ad,ae,ab, *,lL]
  exact h _ H rfl
 | cons a s ih =>
  rintro k i n H hs hk rfl h
  obtain⟨hlt,hg,hs',hg'⟩:=drop_cons hs
  refine nJ _ _ _ _ _ _ fun g=>?_
  simp[af,ah,ad,ae,ab, *,lL,hx.idx,hlt,hg,Quota.enc,IntWalk.i64_in ((k:Int)+1) (by omega)]
  exact ih (k+1) _ _ _ hs' (by omega) (by omega) h
section
variable{xu xq:AV}{us:List Clear}{qs:List Quota}{gr:Int}(hu:Sl 3 (eN us) xu)(hq:Sl 5 (eQ qs) xq)(hql:qs.length<4611686018427387904)(hul:us.length<4611686018427387904)
include hu hq hql
@[simp] theorem IE:limf env 103 [.agg [xu,xq,aI gr]]=some (aI (sV gr qs)):=by
 refine aw (fn:=Tryz.f103) (c:=mM) rfl (by kernel_rfl) (by kernel_rfl) (by kernel_rfl) (by kernel_rfl) ?_;refine xP _ _ _ fun g=>?_
 simp[af,ah,ad,ae,ab, *,qU,hu.r,hq.r]
 exact Fz hq hql qs 0 _ _ _ rfl (by omega) rfl (fun y H' e=>by simp[e])
theorem PS{x85:AV}{r1:Ref}{may:Bool}{Q:AV→Heap→Prop}{l:List Quota}(hx:Sl 5 (eQ l) x85)(hl:l.length<4611686018427387904) : ∀(s:List Quota)(k:Nat)(i n:Int)(H:Heap),l.drop k=s→k≤l.length→i=k →
 Fr H→H.get r1=some ⟨3,[.agg [xu,xq,aI gr]],false,false⟩ →
 (∀y H',y=aI (bad (may&&(!decide (2048<sV gr qs) && !decide (8192<cellsOf n s))))→Q y H') →
 GoL env Tryz.f102 0 iz [(87,aI i),(8,aI n),(85,x85),(1,.ptr r1 0 0),(3,aB may),(86,aI l.length)] H Q:=by
 intro s
 induction s with
 | nil =>
  rintro k i n H hs hk rfl hF hB h
  obtain rfl:=drop_nil hs hk
  refine nK _ _ _ _ _ _ _ _ fun g=>?_
  have hb:=IE (gr:=gr) hu hq hql
  simp[af,ah,ad,ae,ab, *,lM]
  repeat' ((first | refine nH (fun h=>?_) (fun h=>?_) | refine lu (fun h=>?_) (fun h=>?_) | refine lx (fun h=>?_) (fun h=>?_) | refine lg (fun h=>?_) (fun h=>?_) | refine lj (fun h=>?_) (fun h=>?_))<;>(try simp only[decide_eq_true_eq,decide_eq_false_iff_not,Bool.not_eq_true',Bool.not_eq_false',Bool.and_eq_true,Bool.or_eq_true]at h)<;>(try simp[af,ah,ad,ae,ab, *,hu.r,hq.r,hb,bad,cellsOf]))
 | cons a s ih =>
  rintro k i n H hs hk rfl hF hB h
  obtain⟨hlt,hg,hs',hg'⟩:=drop_cons hs
  refine nK _ _ _ _ _ _ _ _ fun g=>?_
  simp[af,ah,ad,ae,ab, *,lM,hx.idx,hlt,hg,Quota.enc,IntWalk.i64_in ((k:Int)+1) (by omega)]
  exact ih (k+1) _ _ _ hs' (by omega) (by omega) (by simp(maxDischargeDepth:=12) [au,ak,Fr.nil,az,af,ah,ad,ae,ar,ao,ab, *]) (by simp(maxDischargeDepth:=12) [au,ak,Fr.nil,az,af,ah,ad,ae,ar,ao,ab, *]) h
def goQ(may:Bool)(p:Option Quota):List Quota→Bool
 | []=>may
 | q :: s=>goQ (may&&(qOwn q&&(match p with | none=>true | some p=>EI p q))) (some q) s
theorem S5{r1:Ref}{Q:AV→Heap→Prop} : ∀(s:List Quota)(k:Nat)(i:Int)(may:Bool)(H:Heap),qs.drop k=s→k≤qs.length→i=k →
 Fr H→H.get r1=some ⟨3,[.agg [xu,xq,aI gr]],false,false⟩ →
 (∀y H',y=aI (bad (goQ may (if k=0 then none else qs[k - 1]?) s&&(!decide (2048<sV gr qs) && !decide (8192<cellsOf 0 (qs.take 8)))))→Q y H') →
 GoL env Tryz.f102 0 jd [(40,aI i),(1,.ptr r1 0 0),(3,aB may),(38,xq),(39,aI qs.length)] H Q:=by
 intro s
 induction s with
 | nil =>
  rintro k i may H hs hk rfl hF hB h
  obtain rfl:=drop_nil hs hk
  refine oP _ _ _ _ _ _ _ fun g=>?_
  have hmin:(if (8:Int)<qs.length then (8:Int) else qs.length)=((min 8 qs.length:Nat):Int):=by split<;>omega
  have hs:=FU (P:=env.P) (t:=23) (z:=5) (by simp) H.get hq (n:=((min 8 qs.length:Nat):Int)) (by omega) (by simp;omega)
  obtain⟨y,ey,sy⟩:=hs
  have ht:(eQ qs).take (min 8 qs.length)=eQ (qs.take 8):=by
   rw[←List.map_take];congr 1
   rcases Nat.le_total 8 qs.length with h | h
   ·rw[Nat.min_eq_left h]
   ·rw[Nat.min_eq_right h,List.take_of_length_le (Nat.le_refl _),List.take_of_length_le h]
  rw[Int.toNat_natCast,ht]at sy
  simp[af,ah,ad,ae,ab, *,fh,hB,hq.len,hmin,ey,sy.len]
  have hl8:(qs.take 8).length=min 8 qs.length:=List.length_take
  rw[←hl8]
  exact PS hu hq hql sy (by omega) _ 0 0 0 H rfl (by omega) rfl hF hB (fun y H' e=>h y H' (by simpa [goQ] using e))
 | cons a s ih =>
  rintro k i may H hs hk rfl hF hB h
  obtain⟨hlt,hg,hs',hg'⟩:=drop_cons hs
  have hi:=ih (k+1)
  refine oP _ _ _ _ _ _ _ fun g=>?_
  cases k with
  | zero =>
   have e1:IntKind.i64.wrap 1=1:=rfl
   cases may
   ·simp[af,ah,ad,ae,ab, *,fh,hq.idx,hlt,hg,Quota.enc,e1]
    exact hi _ _ _ hs' (by omega) rfl (by simp(maxDischargeDepth:=12) [au,ak,Fr.nil,az,af,ah,ad,ae,ar,ao,ab, *]) (by simp(maxDischargeDepth:=12) [au,ak,Fr.nil,az,af,ah,ad,ae,ar,ao,ab, *]) (fun y H' e=>h y H' (by simpa [goQ,hg'] using e))
   ·simp[af,ah,ad,ae,ab, *,fh,hq.idx,hlt,hg,Quota.enc,e1]
    exact hi _ _ _ hs' (by omega) rfl (by simp(maxDischargeDepth:=12) [au,ak,Fr.nil,az,af,ah,ad,ae,ar,ao,ab, *]) (by simp(maxDischargeDepth:=12) [au,ak,Fr.nil,az,af,ah,ad,ae,ar,ao,ab, *]) (fun y H' e=>h y H' (by simpa [goQ,hg',qOwn] using e))
  | succ k =>
   have e1:IntKind.i64.wrap ((k:Int)+1+1)=(k:Int)+1+1:=IntWalk.i64_in _ (by omega)
   have e2:IntKind.i64.wrap (k:Int)=k:=IntWalk.i64_in _ (by omega)
   have e3 : ¬(k:Int)<0:=by omega
   have e4 : ¬(k:Int)+1=0:=by omega
   have e5:k<qs.length:=by omega
   have e6:(k:Int)+1<qs.length:=by omega
   have e7:(0:Int)≤k+1:=by omega
   cases may
   ·simp[af,ah,ad,ae,ab, *,fh,hq.idx,hlt,hg,Quota.enc,e1,e2,e3,e4,e5,e6,e7]
    exact hi _ _ _ hs' (by omega) (by simp) (by simp(maxDischargeDepth:=12) [au,ak,Fr.nil,az,af,ah,ad,ae,ar,ao,ab, *]) (by simp(maxDischargeDepth:=12) [au,ak,Fr.nil,az,af,ah,ad,ae,ar,ao,ab, *]) (fun y H' e=>h y H' (by simpa [goQ,hg'] using e))
   ·simp[af,ah,ad,ae,ab, *,fh,hq.idx,hlt,hg,Quota.enc,e1,e2,e3,e4,e5,e6,e7,hB,af hF (q:=r1)]
    exact hi _ _ _ hs' (by omega) (by simp) (by simp(maxDischargeDepth:=12) [au,ak,Fr.nil,az,af,ah,ad,ae,ar,ao,ab, *]) (by simp(maxDischargeDepth:=12) [au,ak,Fr.nil,az,af,ah,ad,ae,ar,ao,ab, *]) (fun y H' e=>h y H' (by simpa [goQ,hg',qOwn,EI,List.getElem?_eq_getElem e5,Bool.and_assoc] using e))
omit hu hq hql in
theorem O5 : ∀(s:List Quota)(may:Bool)(p:Option Quota),goQ may p s=(may&&qRow p s):=by
 intro s
 induction s with
 | nil=>intro may p;simp[goQ,qRow]
 | cons q s ih=>intro may p;cases p<;>simp[goQ,qRow,ih,Bool.and_assoc]
include hul
theorem S6{r1:Ref}{Q:AV→Heap→Prop} : ∀(s:List Clear)(k:Nat)(i:Int)(may:Bool)(H:Heap),us.drop k=s→k≤us.length→i=k →
 Fr H→H.get r1=some ⟨3,[.agg [xu,xq,aI gr]],false,false⟩ →
 (∀y H',y=aI (bad (((may&&s.all fun c=>GF c.lv c.cats c.ok)&&qRow none qs)&&(!decide (2048<sV gr qs) && !decide (8192<cellsOf 0 (qs.take 8)))))→Q y H') →
 GoL env Tryz.f102 0 je [(27,aI i),(3,aB may),(25,xu),(1,.ptr r1 0 0),(26,aI us.length)] H Q:=by
 intro s
 induction s with
 | nil =>
  rintro k i may H hs hk rfl hF hB hQ
  obtain rfl:=drop_nil hs hk
  refine oQ _ _ _ _ _ _ _ fun g=>?_
  simp[af,ah,ad,ae,ab, *,me,hB,hq.len]
  exact S5 hu hq hql qs 0 0 may H rfl (by omega) rfl hF hB (fun y H' e=>hQ y H' (by simpa [O5] using e))
 | cons a s ih =>
  rintro k i may H hs hk rfl hF hB hQ
  obtain⟨hlt,hg,hs',hg'⟩:=drop_cons hs
  refine oQ _ _ _ _ _ _ _ fun g=>?_
  simp[af,ah,ad,ae,ab, *,me,hu.idx,hlt,hg,Clear.enc]
  repeat' ((first | refine nH (fun h=>?_) (fun h=>?_) | refine lu (fun h=>?_) (fun h=>?_) | refine lx (fun h=>?_) (fun h=>?_) | refine lg (fun h=>?_) (fun h=>?_) | refine lj (fun h=>?_) (fun h=>?_))<;>(try simp only[decide_eq_true_eq,decide_eq_false_iff_not,Bool.not_eq_true',Bool.not_eq_false',Bool.and_eq_true,Bool.or_eq_true]at h)<;>(try simp[af,ah,ad,ae,ab, *,hu.idx,hlt,hg,Clear.enc]))
  ·simp[IntWalk.i64_in ((k:Int)+1) (by omega)]
   exact ih (k+1) _ _ _ hs' (by omega) (by simp) (by simp(maxDischargeDepth:=12) [au,ak,Fr.nil,az,af,ah,ad,ae,ar,ao,ab, *]) (by simp(maxDischargeDepth:=12) [au,ak,Fr.nil,az,af,ah,ad,ae,ar,ao,ab, *]) (fun y H' e=>hQ y H' (by simp[*,Bool.and_assoc]))
  ·simp[IntWalk.i64_in ((k:Int)+1) (by omega)]
   exact ih (k+1) _ _ _ hs' (by omega) (by simp) (by simp(maxDischargeDepth:=12) [au,ak,Fr.nil,az,af,ah,ad,ae,ar,ao,ab, *]) (by simp(maxDischargeDepth:=12) [au,ak,Fr.nil,az,af,ah,ad,ae,ar,ao,ab, *]) (fun y H' e=>hQ y H' (by simp[*,Bool.and_assoc]))
@[simp] theorem yw:limf env 102 [.agg [xu,xq,aI gr]]=some (aI (bad (polB us qs gr))):=by
 refine aw (fn:=Tryz.f102) (c:=iW) rfl (by kernel_rfl) (by kernel_rfl) (by kernel_rfl) (by kernel_rfl) ?_;refine yM _ _ _ fun g=>?_
 simp[af,ah,ad,ae,ab, *,sk,hu.r,hq.r]
 refine S6 (gr:=gr) hu hq hql hul us 0 _ _ _ rfl (by omega) rfl ?_ ?_ ?_
 ·simp(maxDischargeDepth:=12) [au,ak,Fr.nil,az,af,ah,ad,ae,ar,ao,ab, *]
 ·simp(maxDischargeDepth:=12) [au,ak,Fr.nil,az,af,ah,ad,ae,ar,ao,ab, *]
 rintro y H' rfl
 simp only[O4 (f:=17) (by rfl),bj,QX,Option.some.injEq]
 rw[polB,ndec,ndec]
 have e (n:Nat):decide ((n:Int)≤8)=decide (n≤8):=by congr 1;exact propext (by omega)
 simp only[e,Bool.and_assoc]
@[simp] theorem FY(a:UInt8)(b:UInt32):limf env 104 [.agg [xu,xq,aI gr],.agg [a8 a,a32 b]]=some (aI (o5 us qs gr a)):=by
 refine aw (fn:=Tryz.f104) (c:=rN) rfl (by kernel_rfl) (by kernel_rfl) (by kernel_rfl) (by kernel_rfl) ?_;refine yK _ _ _ _ fun g=>?_
 simp[af,ah,ad,ae,ab, *,si,hu.r,hq.r,yw hu hq hql hul,o5]
end
end Go.Proofs.YtmkmimgokagimaaGreat
