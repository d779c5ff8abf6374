/-
  Labels: what the functions answer. No statement of a seat is proved here.
-/
import Derived.Test.YtmkmimgokagimaaGreatLeVc7
import Derived.Test.YtmkmimgokagimaaGreatLeVc4
import Derived.Test.YtmkmimgokagimaaGreatLeVc1
import Derived.Test.YtmkmimgokagimaaGreatMLePol
import Derived.Test.YtmkmimgokagimaaGreatAbsRules
set_option linter.unusedVariables false
set_option linter.unusedSimpArgs false
set_option linter.unusedSectionVars false
set_option linter.unnecessarySimpa false
set_option maxRecDepth 100000
namespace Go.Proofs.YtmkmimgokagimaaGreat
open Go.Ab
attribute [local simp] bm aP keep thr
@[simp] theorem CV(a:UInt8)(b:UInt32):limf env 76 [.agg [a8 a,a32 b]]=some (aI (yS a)):=by
 refine az (fn:=Tryz.f76) (c:=oY) rfl (by kernel_rfl) (by kernel_rfl) (by kernel_rfl) (by kernel_rfl) ?_;refine sN _ _ _ fun g=>?_
 simp[af,ah,ad,ae,ab, *,o7]
 repeat' ((first | refine oc (fun h=>?_) (fun h=>?_) | refine lQ (fun h=>?_) (fun h=>?_) | refine lR (fun h=>?_) (fun h=>?_) | refine lO (fun h=>?_) (fun h=>?_) | refine lP (fun h=>?_) (fun h=>?_))<;>(try simp only[decide_eq_true_eq,decide_eq_false_iff_not,Bool.not_eq_true',Bool.not_eq_false',Bool.and_eq_true,Bool.or_eq_true]at h)<;>(try simp[af,ah,ad,ae,ab, *,yS]))
@[simp] theorem qD(a:UInt8)(b:UInt32)(c:UInt8)(d:UInt32):limf env 47 [.agg [a8 a,a32 b],.agg [a8 c,a32 d]]=some (aB (leqB a b c d)):=by
 refine az (fn:=Tryz.f47) (c:=rL) rfl (by kernel_rfl) (by kernel_rfl) (by kernel_rfl) (by kernel_rfl) ?_;refine wG _ _ _ _ fun g=>?_
 simp[af,ah,ad,ae,ab, *,rZ]
 repeat' ((first | refine oc (fun h=>?_) (fun h=>?_) | refine lQ (fun h=>?_) (fun h=>?_) | refine lR (fun h=>?_) (fun h=>?_) | refine lO (fun h=>?_) (fun h=>?_) | refine lP (fun h=>?_) (fun h=>?_))<;>(try simp only[decide_eq_true_eq,decide_eq_false_iff_not,Bool.not_eq_true',Bool.not_eq_false',Bool.and_eq_true,Bool.or_eq_true]at h)<;>(try simp[af,ah,ad,ae,ab, *,leqB]))
@[simp] theorem Vd(a:UInt8)(b:UInt32)(c:UInt8)(d:UInt32):limf env 169 [.agg [a8 a,a32 b],.agg [a8 c,a32 d]]=some (aB (Kh a b c d)):=by
 refine az (fn:=Tryz.f169) (c:=tf) rfl (by kernel_rfl) (by kernel_rfl) (by kernel_rfl) (by kernel_rfl) ?_;refine z7 _ _ _ _ fun g=>?_
 simp[af,ah,ad,ae,ab, *,tw,lT,eqA,eqFs]
 repeat' ((first | refine oc (fun h=>?_) (fun h=>?_) | refine lQ (fun h=>?_) (fun h=>?_) | refine lR (fun h=>?_) (fun h=>?_) | refine lO (fun h=>?_) (fun h=>?_) | refine lP (fun h=>?_) (fun h=>?_))<;>(try simp only[decide_eq_true_eq,decide_eq_false_iff_not,Bool.not_eq_true',Bool.not_eq_false',Bool.and_eq_true,Bool.or_eq_true]at h)<;>(try simp[af,ah,ad,ae,ab, *,Kh,lT,eqA,eqFs]))
@[simp] theorem NP:limf env 185 []=some (.agg [a8 0,a32 0]):=by
 refine az (fn:=Tryz.f185) (c:=oX) rfl (by kernel_rfl) (by kernel_rfl) (by kernel_rfl) (by kernel_rfl) ?_;refine sM _ _ fun g=>?_
 simp[af,ah,ad,ae,ab, *,o6,lT]
@[simp] theorem Wr(n m:Int):limf env 167 [aI n,aI m]=some (aB (decide (0≤n)&&decide (n≤m))):=by
 refine az (fn:=Tryz.f167) (c:=sZ) rfl (by kernel_rfl) (by kernel_rfl) (by kernel_rfl) (by kernel_rfl) ?_;refine zX _ _ _ _ fun g=>?_
 simp[af,ah,ad,ae,ab, *,tl]
 repeat' ((first | refine oc (fun h=>?_) (fun h=>?_) | refine lQ (fun h=>?_) (fun h=>?_) | refine lR (fun h=>?_) (fun h=>?_) | refine lO (fun h=>?_) (fun h=>?_) | refine lP (fun h=>?_) (fun h=>?_))<;>(try simp only[decide_eq_true_eq,decide_eq_false_iff_not,Bool.not_eq_true',Bool.not_eq_false',Bool.and_eq_true,Bool.or_eq_true]at h)<;>(try simp[af,ah,ad,ae,ab, *]))
@[simp] theorem U7(v:UInt8)(c:UInt32)(ok:Bool):limf env 168 [.agg [a8 v,a32 c,aB ok]]=some (aB (Gg v c ok)):=by
 refine az (fn:=Tryz.f168) (c:=rF) rfl (by kernel_rfl) (by kernel_rfl) (by kernel_rfl) (by kernel_rfl) ?_;refine xX _ _ _ fun g=>?_
 simp[af,ah,ad,ae,ab, *,rU,lT,eqA,eqFs]
 repeat' ((first | refine oc (fun h=>?_) (fun h=>?_) | refine lQ (fun h=>?_) (fun h=>?_) | refine lR (fun h=>?_) (fun h=>?_) | refine lO (fun h=>?_) (fun h=>?_) | refine lP (fun h=>?_) (fun h=>?_))<;>(try simp only[decide_eq_true_eq,decide_eq_false_iff_not,Bool.not_eq_true',Bool.not_eq_false',Bool.and_eq_true,Bool.or_eq_true]at h)<;>(try simp[af,ah,ad,ae,ab, *,Gg,lT,eqA,eqFs]))
end Go.Proofs.YtmkmimgokagimaaGreat
namespace Go.Proofs.YtmkmimgokagimaaGreat
open Go.Ab
attribute [local simp] bm aP keep thr
def rz(b:Bool):List Bool→Nat→Int
 | [],_ => -1
 | x :: l,k=>if b=x then k else rz b l (k+1)
theorem Ov(b:Bool) : ∀(l:List Bool)(k:Nat),(0≤rz b l k↔l.contains b=true):=by
 intro l
 induction l with
 | nil=>intro k;simp[rz]
 | cons x l ih =>
  intro k
  unfold rz
  split
  ·rename_i e;subst e;simp
  ·rename_i e
   rw[ih (k+1)]
   have:(b == x)=false:=by cases b<;>cases x<;>simp_all
   simp only[List.contains_cons,this,Bool.false_or]
section
variable{x0:AV}{l:List Bool}(hx:Sl 1 (VU l) x0)(hl:l.length<4611686018427387904)
include hx hl
theorem G3{b:Bool}{Q:AV→Heap→Prop} : ∀(s:List Bool)(k:Nat)(i:Int)(H:Heap),l.drop k=s→k≤l.length→i=k→(∀y H',y=aI (rz b s k)→Q y H') →
 GoL env Tryz.f227 0 du [(8,aI i),(0,x0),(1,aB b),(7,aI l.length)] H Q:=by
 intro s
 induction s with
 | nil =>
  rintro k i H hs hk rfl h
  obtain rfl:=drop_nil hs hk
  refine gZ _ _ _ _ _ _ fun g=>?_
  simp[af,ah,ad,ae,ab, *,eS]
  exact h _ H rfl
 | cons a s ih =>
  rintro k i H hs hk rfl h
  obtain⟨hlt,hg,hs',hg'⟩:=drop_cons hs
  refine gZ _ _ _ _ _ _ fun g=>?_
  simp[af,ah,ad,ae,ab, *,eS,hx.idx,hlt,hg,IntWalk.i64_in ((k:Int)+1) (by omega)]
  refine Si (fun e=>?_) (fun e=>?_)
  ·exact h _ _ (by simp[rz,e])
  ·simp[IntWalk.i64_in ((k:Int)+1) (by omega)]
   exact ih (k+1) _ _ hs' (by omega) (by omega) (fun y H' ey=>h y H' (by simp[rz,e,ey]))
@[simp] theorem NQ(b:Bool):limf env 227 [x0,aB b]=some (aI (rz b l 0)):=by
 refine az (fn:=Tryz.f227) (c:=fw) rfl (by kernel_rfl) (by kernel_rfl) (by kernel_rfl) (by kernel_rfl) ?_;refine ng _ _ _ _ fun g=>?_
 simp[af,ah,ad,ae,ab, *,iU,hx.len]
 exact G3 hx hl l 0 _ _ rfl (by omega) (by simp) (fun y H' e=>by simp[e])
@[simp] theorem GC(b:Bool):limf env 212 [x0,aB b]=some (aB (l.contains b)):=by
 refine az (fn:=Tryz.f212) (c:=gU) rfl (by kernel_rfl) (by kernel_rfl) (by kernel_rfl) (by kernel_rfl) ?_;refine mq _ _ _ _ fun g=>?_
 have:=Ov b l 0
 simp[af,ah,ad,ae,ab, *,gX,hx.r,NQ hx hl,this]
@[simp] theorem My:limf env 166 [x0]=some (aB (l.all id)):=by
 refine az (fn:=Tryz.f166) (c:=u6) rfl (by kernel_rfl) (by kernel_rfl) (by kernel_rfl) (by kernel_rfl) ?_;refine Bo _ _ _ fun g=>?_
 have:(!l.contains false)=l.all id:=by
  clear hx hl
  induction l with
  | nil=>rfl
  | cons b l ih=>cases b<;>simp_all
 simp[af,ah,ad,ae,ab, *,vm,hx.r,GC hx hl,←this]
end
@[simp] theorem Wt(a b c:Bool):limf env 166 [.isl 1 [aB a,aB b,aB c] (some 3)]=some (aB (a&&(b&&c))):=by
 have:=My (l:=[a,b,c]) (x0 := .isl 1 [aB a,aB b,aB c] (some 3)) (.inr ⟨_,rfl,by simp⟩) (by simp);simpa using this
@[simp] theorem Ws(a b c d e:Bool):limf env 166 [.isl 1 [aB a,aB b,aB c,aB d,aB e] (some 5)]=some (aB (a&&(b&&(c&&(d&&e))))):=by
 have:=My (l:=[a,b,c,d,e]) (x0 := .isl 1 [aB a,aB b,aB c,aB d,aB e] (some 5)) (.inr ⟨_,rfl,by simp⟩) (by simp);simpa using this
theorem E7{x9:AV}{Q:AV→Heap→Prop}{l:List Quota}(hx:Sl 5 (eK l) x9)(hl:l.length<4611686018427387904) : ∀(s:List Quota)(k:Nat)(i n:Int)(H:Heap),l.drop k=s→k≤l.length→i=k →
 (∀y H',y=aI (sE n s)→Q y H') →
 GoL env Tryz.f103 0 iN [(11,aI i),(3,aI n),(9,x9),(10,aI l.length)] H Q:=by
 intro s
 induction s with
 | nil =>
  rintro k i n H hs hk rfl h
  obtain rfl:=drop_nil hs hk
  refine oe _ _ _ _ _ _ fun g=>?_
  simp[af,ah,ad,ae,ab, *,md]
  exact h _ H rfl
 | cons a s ih =>
  rintro k i n H hs hk rfl h
  obtain⟨hlt,hg,hs',hg'⟩:=drop_cons hs
  refine oe _ _ _ _ _ _ fun g=>?_
  simp[af,ah,ad,ae,ab, *,md,hx.idx,hlt,hg,Quota.enc,IntWalk.i64_in ((k:Int)+1) (by omega)]
  exact ih (k+1) _ _ _ hs' (by omega) (by omega) h
section
variable{xu xq:AV}{us:List Clear}{qs:List Quota}{gr:Int}(hu:Sl 3 (eg us) xu)(hq:Sl 5 (eK qs) xq)(hql:qs.length<4611686018427387904)(hul:us.length<4611686018427387904)
include hu hq hql
@[simp] theorem Ic:limf env 103 [.agg [xu,xq,aI gr]]=some (aI (sE gr qs)):=by
 refine az (fn:=Tryz.f103) (c:=m7) rfl (by kernel_rfl) (by kernel_rfl) (by kernel_rfl) (by kernel_rfl) ?_;refine xj _ _ _ fun g=>?_
 simp[af,ah,ad,ae,ab, *,qR,hu.r,hq.r]
 exact E7 hq hql qs 0 _ _ _ rfl (by omega) rfl (fun y H' e=>by simp[e])
theorem Pk{x85:AV}{r1:Ref}{may:Bool}{Q:AV→Heap→Prop}{l:List Quota}(hx:Sl 5 (eK l) x85)(hl:l.length<4611686018427387904) : ∀(s:List Quota)(k:Nat)(i n:Int)(H:Heap),l.drop k=s→k≤l.length→i=k →
 Fr H→H.get r1=some ⟨3,[.agg [xu,xq,aI gr]],false,false⟩ →
 (∀y H',y=aI (bad (may&&(!decide (2048<sE gr qs) && !decide (8192<cellsOf n s))))→Q y H') →
 GoL env Tryz.f102 0 iO [(87,aI i),(8,aI n),(85,x85),(1,.ptr r1 0 0),(3,aB may),(86,aI l.length)] H Q:=by
 intro s
 induction s with
 | nil =>
  rintro k i n H hs hk rfl hF hB h
  obtain rfl:=drop_nil hs hk
  refine og _ _ _ _ _ _ _ _ fun g=>?_
  have hb:=Ic (gr:=gr) hu hq hql
  simp[af,ah,ad,ae,ab, *,me]
  repeat' ((first | refine oc (fun h=>?_) (fun h=>?_) | refine lQ (fun h=>?_) (fun h=>?_) | refine lR (fun h=>?_) (fun h=>?_) | refine lO (fun h=>?_) (fun h=>?_) | refine lP (fun h=>?_) (fun h=>?_))<;>(try simp only[decide_eq_true_eq,decide_eq_false_iff_not,Bool.not_eq_true',Bool.not_eq_false',Bool.and_eq_true,Bool.or_eq_true]at h)<;>(try simp[af,ah,ad,ae,ab, *,hu.r,hq.r,hb,bad,cellsOf]))
 | cons a s ih =>
  rintro k i n H hs hk rfl hF hB h
  obtain⟨hlt,hg,hs',hg'⟩:=drop_cons hs
  refine og _ _ _ _ _ _ _ _ fun g=>?_
  simp[af,ah,ad,ae,ab, *,me,hx.idx,hlt,hg,Quota.enc,IntWalk.i64_in ((k:Int)+1) (by omega)]
  exact ih (k+1) _ _ _ hs' (by omega) (by omega) (by simp(maxDischargeDepth:=12) [ar,aj,Fr.nil,au,af,ah,ad,ae,aq,ak,ab, *]) (by simp(maxDischargeDepth:=12) [ar,aj,Fr.nil,au,af,ah,ad,ae,aq,ak,ab, *]) h
def goQ(may:Bool)(p:Option Quota):List Quota→Bool
 | []=>may
 | q :: s=>goQ (may&&(qOwn q&&(match p with | none=>true | some p=>Ei p q))) (some q) s
theorem Sb{r1:Ref}{Q:AV→Heap→Prop} : ∀(s:List Quota)(k:Nat)(i:Int)(may:Bool)(H:Heap),qs.drop k=s→k≤qs.length→i=k →
 Fr H→H.get r1=some ⟨3,[.agg [xu,xq,aI gr]],false,false⟩ →
 (∀y H',y=aI (bad (goQ may (if k=0 then none else qs[k - 1]?) s&&(!decide (2048<sE gr qs) && !decide (8192<cellsOf 0 (qs.take 8)))))→Q y H') →
 GoL env Tryz.f102 0 jw [(40,aI i),(1,.ptr r1 0 0),(3,aB may),(38,xq),(39,aI qs.length)] H Q:=by
 intro s
 induction s with
 | nil =>
  rintro k i may H hs hk rfl hF hB h
  obtain rfl:=drop_nil hs hk
  refine pd _ _ _ _ _ _ _ fun g=>?_
  have hmin:(if (8:Int)<qs.length then (8:Int) else qs.length)=((min 8 qs.length:Nat):Int):=by split<;>omega
  have hs:=Fv (P:=env.P) (t:=23) (z:=5) (by simp) H.get hq (n:=((min 8 qs.length:Nat):Int)) (by omega) (by simp;omega)
  obtain⟨y,ey,sy⟩:=hs
  have ht:(eK qs).take (min 8 qs.length)=eK (qs.take 8):=by
   rw[←List.map_take];congr 1
   rcases Nat.le_total 8 qs.length with h | h
   ·rw[Nat.min_eq_left h]
   ·rw[Nat.min_eq_right h,List.take_of_length_le (Nat.le_refl _),List.take_of_length_le h]
  rw[Int.toNat_natCast,ht]at sy
  simp[af,ah,ad,ae,ab, *,fG,hB,hq.len,hmin,ey,sy.len]
  have hl8:(qs.take 8).length=min 8 qs.length:=List.length_take
  rw[←hl8]
  exact Pk hu hq hql sy (by omega) _ 0 0 0 H rfl (by omega) rfl hF hB (fun y H' e=>h y H' (by simpa [goQ] using e))
 | cons a s ih =>
  rintro k i may H hs hk rfl hF hB h
  obtain⟨hlt,hg,hs',hg'⟩:=drop_cons hs
  have hi:=ih (k+1)
  refine pd _ _ _ _ _ _ _ fun g=>?_
  cases k with
  | zero =>
   have e1:IntKind.i64.wrap 1=1:=rfl
   cases may
   ·simp[af,ah,ad,ae,ab, *,fG,hq.idx,hlt,hg,Quota.enc,e1]
    exact hi _ _ _ hs' (by omega) rfl (by simp(maxDischargeDepth:=12) [ar,aj,Fr.nil,au,af,ah,ad,ae,aq,ak,ab, *]) (by simp(maxDischargeDepth:=12) [ar,aj,Fr.nil,au,af,ah,ad,ae,aq,ak,ab, *]) (fun y H' e=>h y H' (by simpa [goQ,hg'] using e))
   ·simp[af,ah,ad,ae,ab, *,fG,hq.idx,hlt,hg,Quota.enc,e1]
    exact hi _ _ _ hs' (by omega) rfl (by simp(maxDischargeDepth:=12) [ar,aj,Fr.nil,au,af,ah,ad,ae,aq,ak,ab, *]) (by simp(maxDischargeDepth:=12) [ar,aj,Fr.nil,au,af,ah,ad,ae,aq,ak,ab, *]) (fun y H' e=>h y H' (by simpa [goQ,hg',qOwn] using e))
  | succ k =>
   have e1:IntKind.i64.wrap ((k:Int)+1+1)=(k:Int)+1+1:=IntWalk.i64_in _ (by omega)
   have e2:IntKind.i64.wrap (k:Int)=k:=IntWalk.i64_in _ (by omega)
   have e3 : ¬(k:Int)<0:=by omega
   have e4 : ¬(k:Int)+1=0:=by omega
   have e5:k<qs.length:=by omega
   have e6:(k:Int)+1<qs.length:=by omega
   have e7:(0:Int)≤k+1:=by omega
   cases may
   ·simp[af,ah,ad,ae,ab, *,fG,hq.idx,hlt,hg,Quota.enc,e1,e2,e3,e4,e5,e6,e7]
    exact hi _ _ _ hs' (by omega) (by simp) (by simp(maxDischargeDepth:=12) [ar,aj,Fr.nil,au,af,ah,ad,ae,aq,ak,ab, *]) (by simp(maxDischargeDepth:=12) [ar,aj,Fr.nil,au,af,ah,ad,ae,aq,ak,ab, *]) (fun y H' e=>h y H' (by simpa [goQ,hg'] using e))
   ·simp[af,ah,ad,ae,ab, *,fG,hq.idx,hlt,hg,Quota.enc,e1,e2,e3,e4,e5,e6,e7,hB,af hF (q:=r1)]
    exact hi _ _ _ hs' (by omega) (by simp) (by simp(maxDischargeDepth:=12) [ar,aj,Fr.nil,au,af,ah,ad,ae,aq,ak,ab, *]) (by simp(maxDischargeDepth:=12) [ar,aj,Fr.nil,au,af,ah,ad,ae,aq,ak,ab, *]) (fun y H' e=>h y H' (by simpa [goQ,hg',qOwn,Ei,List.getElem?_eq_getElem e5,Bool.and_assoc] using e))
omit hu hq hql in
theorem Ox : ∀(s:List Quota)(may:Bool)(p:Option Quota),goQ may p s=(may&&qRow p s):=by
 intro s
 induction s with
 | nil=>intro may p;simp[goQ,qRow]
 | cons q s ih=>intro may p;cases p<;>simp[goQ,qRow,ih,Bool.and_assoc]
include hul
theorem Sc{r1:Ref}{Q:AV→Heap→Prop} : ∀(s:List Clear)(k:Nat)(i:Int)(may:Bool)(H:Heap),us.drop k=s→k≤us.length→i=k →
 Fr H→H.get r1=some ⟨3,[.agg [xu,xq,aI gr]],false,false⟩ →
 (∀y H',y=aI (bad (((may&&s.all fun c=>Gg c.lv c.cats c.ok)&&qRow none qs)&&(!decide (2048<sE gr qs) && !decide (8192<cellsOf 0 (qs.take 8)))))→Q y H') →
 GoL env Tryz.f102 0 jx [(27,aI i),(3,aB may),(25,xu),(1,.ptr r1 0 0),(26,aI us.length)] H Q:=by
 intro s
 induction s with
 | nil =>
  rintro k i may H hs hk rfl hF hB hQ
  obtain rfl:=drop_nil hs hk
  refine pe _ _ _ _ _ _ _ fun g=>?_
  simp[af,ah,ad,ae,ab, *,mA,hB,hq.len]
  exact Sb hu hq hql qs 0 0 may H rfl (by omega) rfl hF hB (fun y H' e=>hQ y H' (by simpa [Ox] using e))
 | cons a s ih =>
  rintro k i may H hs hk rfl hF hB hQ
  obtain⟨hlt,hg,hs',hg'⟩:=drop_cons hs
  refine pe _ _ _ _ _ _ _ fun g=>?_
  simp[af,ah,ad,ae,ab, *,mA,hu.idx,hlt,hg,Clear.enc]
  repeat' ((first | refine oc (fun h=>?_) (fun h=>?_) | refine lQ (fun h=>?_) (fun h=>?_) | refine lR (fun h=>?_) (fun h=>?_) | refine lO (fun h=>?_) (fun h=>?_) | refine lP (fun h=>?_) (fun h=>?_))<;>(try simp only[decide_eq_true_eq,decide_eq_false_iff_not,Bool.not_eq_true',Bool.not_eq_false',Bool.and_eq_true,Bool.or_eq_true]at h)<;>(try simp[af,ah,ad,ae,ab, *,hu.idx,hlt,hg,Clear.enc]))
  ·simp[IntWalk.i64_in ((k:Int)+1) (by omega)]
   exact ih (k+1) _ _ _ hs' (by omega) (by simp) (by simp(maxDischargeDepth:=12) [ar,aj,Fr.nil,au,af,ah,ad,ae,aq,ak,ab, *]) (by simp(maxDischargeDepth:=12) [ar,aj,Fr.nil,au,af,ah,ad,ae,aq,ak,ab, *]) (fun y H' e=>hQ y H' (by simp[*,Bool.and_assoc]))
  ·simp[IntWalk.i64_in ((k:Int)+1) (by omega)]
   exact ih (k+1) _ _ _ hs' (by omega) (by simp) (by simp(maxDischargeDepth:=12) [ar,aj,Fr.nil,au,af,ah,ad,ae,aq,ak,ab, *]) (by simp(maxDischargeDepth:=12) [ar,aj,Fr.nil,au,af,ah,ad,ae,aq,ak,ab, *]) (fun y H' e=>hQ y H' (by simp[*,Bool.and_assoc]))
@[simp] theorem xK:limf env 102 [.agg [xu,xq,aI gr]]=some (aI (bad (polB us qs gr))):=by
 refine az (fn:=Tryz.f102) (c:=jl) rfl (by kernel_rfl) (by kernel_rfl) (by kernel_rfl) (by kernel_rfl) ?_;refine ya _ _ _ fun g=>?_
 simp[af,ah,ad,ae,ab, *,rX,hu.r,hq.r]
 refine Sc (gr:=gr) hu hq hql hul us 0 _ _ _ rfl (by omega) rfl ?_ ?_ ?_
 ·simp(maxDischargeDepth:=12) [ar,aj,Fr.nil,au,af,ah,ad,ae,aq,ak,ab, *]
 ·simp(maxDischargeDepth:=12) [ar,aj,Fr.nil,au,af,ah,ad,ae,aq,ak,ab, *]
 rintro y H' rfl
 simp only[Ow (f:=17) (by rfl),bm,Qk,Option.some.injEq]
 rw[polB,ndec,ndec]
 have e (n:Nat):decide ((n:Int)≤8)=decide (n≤8):=by congr 1;exact propext (by omega)
 simp only[e,Bool.and_assoc]
@[simp] theorem Fy(a:UInt8)(b:UInt32):limf env 104 [.agg [xu,xq,aI gr],.agg [a8 a,a32 b]]=some (aI (Ad us qs gr a)):=by
 refine az (fn:=Tryz.f104) (c:=rG) rfl (by kernel_rfl) (by kernel_rfl) (by kernel_rfl) (by kernel_rfl) ?_;refine xY _ _ _ _ fun g=>?_
 simp[af,ah,ad,ae,ab, *,rV,hu.r,hq.r,xK hu hq hql hul,Ad]
end
end Go.Proofs.YtmkmimgokagimaaGreat
