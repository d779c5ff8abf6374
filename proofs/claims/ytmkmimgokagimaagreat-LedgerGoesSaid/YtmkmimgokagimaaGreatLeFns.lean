/-
  The functions of policy: what they answer. No statement of a seat is proved here.
-/
import Derived.Test.YtmkmimgokagimaaGreatLeLab
set_option linter.unusedSectionVars false
set_option linter.unusedVariables false
set_option linter.unusedSimpArgs false
set_option maxRecDepth 100000
namespace Go.Proofs.YtmkmimgokagimaaGreat
open Go.Ab
attribute [local simp] bx aZ keep thr
def pM(b:Bool):List Bool→Nat→Int
 | [],_ => -1
 | x :: l,k=>if b=x then k else pM b l (k+1)
theorem LB(b:Bool) : ∀(l:List Bool)(k:Nat),(0≤pM b l k↔l.contains b=true):=by
 intro l
 induction l with
 | nil=>intro k;simp[pM]
 | cons x l ih =>
  intro k
  unfold pM
  split
  ·rename_i e;subst e;simp
  ·rename_i e
   rw[ih (k+1)]
   have:(b == x)=false:=by cases b<;>cases x<;>simp_all
   simp only[List.contains_cons,this,Bool.false_or]
section
variable{x0:AV}{l:List Bool}(hx:Sl 1 (SQ l) x0)(hl:l.length<4611686018427387904)
include hx hl
theorem Eb{b:Bool}{Q:AV→Heap→Prop} : ∀(s:List Bool)(k:Nat)(i:Int)(H:Heap),l.drop k=s→k≤l.length→i=k→(∀y H',y=aI (pM b s k)→Q y H') →
 GoL env Tryz.f227 0 cV [(8,aI i),(0,x0),(1,aB b),(7,aI l.length)] H Q:=by
 intro s
 induction s with
 | nil =>
  rintro k i H hs hk rfl h
  obtain rfl:=drop_nil hs hk
  refine gp _ _ _ _ _ _ fun g=>?_
  simp[af,ah,ad,ae,ab, *,ep]
  exact h _ H rfl
 | cons a s ih =>
  rintro k i H hs hk rfl h
  obtain⟨hlt,hg,hs',hg'⟩:=drop_cons hs
  refine gp _ _ _ _ _ _ fun g=>?_
  simp[af,ah,ad,ae,ab, *,ep,hx.idx,hlt,hg,IntWalk.i64_in ((k:Int)+1) (by omega)]
  refine Pu (fun e=>?_) (fun e=>?_)
  ·exact h _ _ (by simp[pM,e])
  ·simp[IntWalk.i64_in ((k:Int)+1) (by omega)]
   exact ih (k+1) _ _ hs' (by omega) (by omega) (fun y H' ey=>h y H' (by simp[pM,e,ey]))
@[simp] theorem K3(b:Bool):limf env 227 [x0,aB b]=some (aI (pM b l 0)):=by
 refine aA (fn:=Tryz.f227) (c:=eO) rfl (by kernel_rfl) (by kernel_rfl) (by kernel_rfl) (by kernel_rfl) ?_;refine mb _ _ _ _ fun g=>?_
 simp[af,ah,ad,ae,ab, *,ik,hx.len]
 exact Eb hx hl l 0 _ _ rfl (by omega) (by simp) (fun y H' e=>by simp[e])
@[simp] theorem DO(b:Bool):limf env 212 [x0,aB b]=some (aB (l.contains b)):=by
 refine aA (fn:=Tryz.f212) (c:=gj) rfl (by kernel_rfl) (by kernel_rfl) (by kernel_rfl) (by kernel_rfl) ?_;refine k6 _ _ _ _ fun g=>?_
 have:=LB b l 0
 simp[af,ah,ad,ae,ab, *,gl,hx.r,K3 hx hl,this]
@[simp] theorem JH:limf env 166 [x0]=some (aB (l.all id)):=by
 refine aA (fn:=Tryz.f166) (c:=sG) rfl (by kernel_rfl) (by kernel_rfl) (by kernel_rfl) (by kernel_rfl) ?_;refine yI _ _ _ fun g=>?_
 have:(!l.contains false)=l.all id:=by
  clear hx hl
  induction l with
  | nil=>rfl
  | cons b l ih=>cases b<;>simp_all
 simp[af,ah,ad,ae,ab, *,sQ,hx.r,DO hx hl,←this]
end
@[simp] theorem Tq(a b c:Bool):limf env 166 [.isl 1 [aB a,aB b,aB c] (some 3)]=some (aB (a&&(b&&c))):=by
 have:=JH (l:=[a,b,c]) (x0 := .isl 1 [aB a,aB b,aB c] (some 3)) (.inr ⟨_,rfl,by simp⟩) (by simp);simpa using this
@[simp] theorem Tp(a b c d e:Bool):limf env 166 [.isl 1 [aB a,aB b,aB c,aB d,aB e] (some 5)]=some (aB (a&&(b&&(c&&(d&&e))))):=by
 have:=JH (l:=[a,b,c,d,e]) (x0 := .isl 1 [aB a,aB b,aB c,aB d,aB e] (some 5)) (.inr ⟨_,rfl,by simp⟩) (by simp);simpa using this
theorem Cs{x9:AV}{Q:AV→Heap→Prop}{l:List Quota}(hx:Sl 5 (iq l) x9)(hl:l.length<4611686018427387904) : ∀(s:List Quota)(k:Nat)(i n:Int)(H:Heap),l.drop k=s→k≤l.length→i=k →
 (∀y H',y=aI (qE n s)→Q y H') →
 GoL env Tryz.f103 0 hZ [(11,aI i),(3,aI n),(9,x9),(10,aI l.length)] H Q:=by
 intro s
 induction s with
 | nil =>
  rintro k i n H hs hk rfl h
  obtain rfl:=drop_nil hs hk
  refine mR _ _ _ _ _ _ fun g=>?_
  simp[af,ah,ad,ae,ab, *,kS]
  exact h _ H rfl
 | cons a s ih =>
  rintro k i n H hs hk rfl h
  obtain⟨hlt,hg,hs',hg'⟩:=drop_cons hs
  refine mR _ _ _ _ _ _ fun g=>?_
  simp[af,ah,ad,ae,ab, *,kS,hx.idx,hlt,hg,Quota.enc,IntWalk.i64_in ((k:Int)+1) (by omega)]
  exact ih (k+1) _ _ _ hs' (by omega) (by omega) h
section
variable{xu xq:AV}{us:List Clear}{qs:List Quota}{gr:Int}(hu:Sl 3 (gY us) xu)(hq:Sl 5 (iq qs) xq)(hql:qs.length<4611686018427387904)(hul:us.length<4611686018427387904)
include hu hq hql
@[simp] theorem Fc:limf env 103 [.agg [xu,xq,aI gr]]=some (aI (qE gr qs)):=by
 refine aA (fn:=Tryz.f103) (c:=lX) rfl (by kernel_rfl) (by kernel_rfl) (by kernel_rfl) (by kernel_rfl) ?_;refine uE _ _ _ fun g=>?_
 simp[af,ah,ad,ae,ab, *,po,hu.r,hq.r]
 exact Cs hq hql qs 0 _ _ _ rfl (by omega) rfl (fun y H' e=>by simp[e])
theorem Mr{x85:AV}{r1:Ref}{may:Bool}{Q:AV→Heap→Prop}{l:List Quota}(hx:Sl 5 (iq l) x85)(hl:l.length<4611686018427387904) : ∀(s:List Quota)(k:Nat)(i n:Int)(H:Heap),l.drop k=s→k≤l.length→i=k →
 Fr H→H.get r1=some ⟨3,[.agg [xu,xq,aI gr]],false,false⟩ →
 (∀y H',y=aI (bad (may&&(!decide (2048<qE gr qs) && !decide (8192<cellsOf n s))))→Q y H') →
 GoL env Tryz.f102 0 ia [(87,aI i),(8,aI n),(85,x85),(1,.ptr r1 0 0),(3,aB may),(86,aI l.length)] H Q:=by
 intro s
 induction s with
 | nil =>
  rintro k i n H hs hk rfl hF hB h
  obtain rfl:=drop_nil hs hk
  refine mS _ _ _ _ _ _ _ _ fun g=>?_
  have hb:=Fc (gr:=gr) hu hq hql
  simp[af,ah,ad,ae,ab, *,kT]
  repeat' ((first | refine mP (fun h=>?_) (fun h=>?_) | refine kD (fun h=>?_) (fun h=>?_) | refine kE (fun h=>?_) (fun h=>?_) | refine kB (fun h=>?_) (fun h=>?_) | refine kC (fun h=>?_) (fun h=>?_))<;>(try simp only[decide_eq_true_eq,decide_eq_false_iff_not,Bool.not_eq_true',Bool.not_eq_false',Bool.and_eq_true,Bool.or_eq_true]at h)<;>(try simp[af,ah,ad,ae,ab, *,hu.r,hq.r,hb,bad,cellsOf]))
 | cons a s ih =>
  rintro k i n H hs hk rfl hF hB h
  obtain⟨hlt,hg,hs',hg'⟩:=drop_cons hs
  refine mS _ _ _ _ _ _ _ _ fun g=>?_
  simp[af,ah,ad,ae,ab, *,kT,hx.idx,hlt,hg,Quota.enc,IntWalk.i64_in ((k:Int)+1) (by omega)]
  exact ih (k+1) _ _ _ hs' (by omega) (by omega) (by simp(maxDischargeDepth:=12) [aq,aj,Fr.nil,au,af,ah,ad,ae,ao,ak,ab, *]) (by simp(maxDischargeDepth:=12) [aq,aj,Fr.nil,au,af,ah,ad,ae,ao,ak,ab, *]) h
def goQ(may:Bool)(p:Option Quota):List Quota→Bool
 | []=>may
 | q :: s=>goQ (may&&(qOwn q&&(match p with | none=>true | some p=>BK p q))) (some q) s
theorem Pn{r1:Ref}{Q:AV→Heap→Prop} : ∀(s:List Quota)(k:Nat)(i:Int)(may:Bool)(H:Heap),qs.drop k=s→k≤qs.length→i=k →
 Fr H→H.get r1=some ⟨3,[.agg [xu,xq,aI gr]],false,false⟩ →
 (∀y H',y=aI (bad (goQ may (if k=0 then none else qs[k - 1]?) s&&(!decide (2048<qE gr qs) && !decide (8192<cellsOf 0 (qs.take 8)))))→Q y H') →
 GoL env Tryz.f102 0 iI [(40,aI i),(1,.ptr r1 0 0),(3,aB may),(38,xq),(39,aI qs.length)] H Q:=by
 intro s
 induction s with
 | nil =>
  rintro k i may H hs hk rfl hF hB h
  obtain rfl:=drop_nil hs hk
  refine nJ _ _ _ _ _ _ _ fun g=>?_
  have hmin:(if (8:Int)<qs.length then (8:Int) else qs.length)=((min 8 qs.length:Nat):Int):=by split<;>omega
  have hs:=CL (P:=env.P) (t:=23) (z:=5) (by simp) H.get hq (n:=((min 8 qs.length:Nat):Int)) (by omega) (by simp;omega)
  obtain⟨y,ey,sy⟩:=hs
  have ht:(iq qs).take (min 8 qs.length)=iq (qs.take 8):=by
   rw[←List.map_take];congr 1
   rcases Nat.le_total 8 qs.length with h | h
   ·rw[Nat.min_eq_left h]
   ·rw[Nat.min_eq_right h,List.take_of_length_le (Nat.le_refl _),List.take_of_length_le h]
  rw[Int.toNat_natCast,ht]at sy
  simp[af,ah,ad,ae,ab, *,eU,hB,hq.len,hmin,ey,sy.len]
  have hl8:(qs.take 8).length=min 8 qs.length:=List.length_take
  rw[←hl8]
  exact Mr hu hq hql sy (by omega) _ 0 0 0 H rfl (by omega) rfl hF hB (fun y H' e=>h y H' (by simpa [goQ] using e))
 | cons a s ih =>
  rintro k i may H hs hk rfl hF hB h
  obtain⟨hlt,hg,hs',hg'⟩:=drop_cons hs
  have hi:=ih (k+1)
  refine nJ _ _ _ _ _ _ _ fun g=>?_
  cases k with
  | zero =>
   have e1:IntKind.i64.wrap 1=1:=rfl
   cases may
   ·simp[af,ah,ad,ae,ab, *,eU,hq.idx,hlt,hg,Quota.enc,e1]
    exact hi _ _ _ hs' (by omega) rfl (by simp(maxDischargeDepth:=12) [aq,aj,Fr.nil,au,af,ah,ad,ae,ao,ak,ab, *]) (by simp(maxDischargeDepth:=12) [aq,aj,Fr.nil,au,af,ah,ad,ae,ao,ak,ab, *]) (fun y H' e=>h y H' (by simpa [goQ,hg'] using e))
   ·simp[af,ah,ad,ae,ab, *,eU,hq.idx,hlt,hg,Quota.enc,e1]
    exact hi _ _ _ hs' (by omega) rfl (by simp(maxDischargeDepth:=12) [aq,aj,Fr.nil,au,af,ah,ad,ae,ao,ak,ab, *]) (by simp(maxDischargeDepth:=12) [aq,aj,Fr.nil,au,af,ah,ad,ae,ao,ak,ab, *]) (fun y H' e=>h y H' (by simpa [goQ,hg',qOwn] using e))
  | succ k =>
   have e1:IntKind.i64.wrap ((k:Int)+1+1)=(k:Int)+1+1:=IntWalk.i64_in _ (by omega)
   have e2:IntKind.i64.wrap (k:Int)=k:=IntWalk.i64_in _ (by omega)
   have e3 : ¬(k:Int)<0:=by omega
   have e4 : ¬(k:Int)+1=0:=by omega
   have e5:k<qs.length:=by omega
   have e6:(k:Int)+1<qs.length:=by omega
   have e7:(0:Int)≤k+1:=by omega
   cases may
   ·simp[af,ah,ad,ae,ab, *,eU,hq.idx,hlt,hg,Quota.enc,e1,e2,e3,e4,e5,e6,e7]
    exact hi _ _ _ hs' (by omega) (by simp) (by simp(maxDischargeDepth:=12) [aq,aj,Fr.nil,au,af,ah,ad,ae,ao,ak,ab, *]) (by simp(maxDischargeDepth:=12) [aq,aj,Fr.nil,au,af,ah,ad,ae,ao,ak,ab, *]) (fun y H' e=>h y H' (by simpa [goQ,hg'] using e))
   ·simp[af,ah,ad,ae,ab, *,eU,hq.idx,hlt,hg,Quota.enc,e1,e2,e3,e4,e5,e6,e7,hB,af hF (q:=r1)]
    exact hi _ _ _ hs' (by omega) (by simp) (by simp(maxDischargeDepth:=12) [aq,aj,Fr.nil,au,af,ah,ad,ae,ao,ak,ab, *]) (by simp(maxDischargeDepth:=12) [aq,aj,Fr.nil,au,af,ah,ad,ae,ao,ak,ab, *]) (fun y H' e=>h y H' (by simpa [goQ,hg',qOwn,BK,List.getElem?_eq_getElem e5,Bool.and_assoc] using e))
omit hu hq hql in
theorem LD : ∀(s:List Quota)(may:Bool)(p:Option Quota),goQ may p s=(may&&qRow p s):=by
 intro s
 induction s with
 | nil=>intro may p;simp[goQ,qRow]
 | cons q s ih=>intro may p;cases p<;>simp[goQ,qRow,ih,Bool.and_assoc]
include hul
theorem Po{r1:Ref}{Q:AV→Heap→Prop} : ∀(s:List Clear)(k:Nat)(i:Int)(may:Bool)(H:Heap),us.drop k=s→k≤us.length→i=k →
 Fr H→H.get r1=some ⟨3,[.agg [xu,xq,aI gr]],false,false⟩ →
 (∀y H',y=aI (bad (((may&&s.all fun c=>Ds c.lv c.cats c.ok)&&qRow none qs)&&(!decide (2048<qE gr qs) && !decide (8192<cellsOf 0 (qs.take 8)))))→Q y H') →
 GoL env Tryz.f102 0 iJ [(27,aI i),(3,aB may),(25,xu),(1,.ptr r1 0 0),(26,aI us.length)] H Q:=by
 intro s
 induction s with
 | nil =>
  rintro k i may H hs hk rfl hF hB hQ
  obtain rfl:=drop_nil hs hk
  refine nK _ _ _ _ _ _ _ fun g=>?_
  simp[af,ah,ad,ae,ab, *,lj,hB,hq.len]
  exact Pn hu hq hql qs 0 0 may H rfl (by omega) rfl hF hB (fun y H' e=>hQ y H' (by simpa [LD] using e))
 | cons a s ih =>
  rintro k i may H hs hk rfl hF hB hQ
  obtain⟨hlt,hg,hs',hg'⟩:=drop_cons hs
  refine nK _ _ _ _ _ _ _ fun g=>?_
  simp[af,ah,ad,ae,ab, *,lj,hu.idx,hlt,hg,Clear.enc]
  repeat' ((first | refine mP (fun h=>?_) (fun h=>?_) | refine kD (fun h=>?_) (fun h=>?_) | refine kE (fun h=>?_) (fun h=>?_) | refine kB (fun h=>?_) (fun h=>?_) | refine kC (fun h=>?_) (fun h=>?_))<;>(try simp only[decide_eq_true_eq,decide_eq_false_iff_not,Bool.not_eq_true',Bool.not_eq_false',Bool.and_eq_true,Bool.or_eq_true]at h)<;>(try simp[af,ah,ad,ae,ab, *,hu.idx,hlt,hg,Clear.enc]))
  ·simp[IntWalk.i64_in ((k:Int)+1) (by omega)]
   exact ih (k+1) _ _ _ hs' (by omega) (by simp) (by simp(maxDischargeDepth:=12) [aq,aj,Fr.nil,au,af,ah,ad,ae,ao,ak,ab, *]) (by simp(maxDischargeDepth:=12) [aq,aj,Fr.nil,au,af,ah,ad,ae,ao,ak,ab, *]) (fun y H' e=>hQ y H' (by simp[*,Bool.and_assoc]))
  ·simp[IntWalk.i64_in ((k:Int)+1) (by omega)]
   exact ih (k+1) _ _ _ hs' (by omega) (by simp) (by simp(maxDischargeDepth:=12) [aq,aj,Fr.nil,au,af,ah,ad,ae,ao,ak,ab, *]) (by simp(maxDischargeDepth:=12) [aq,aj,Fr.nil,au,af,ah,ad,ae,ao,ak,ab, *]) (fun y H' e=>hQ y H' (by simp[*,Bool.and_assoc]))
@[simp] theorem uX:limf env 102 [.agg [xu,xq,aI gr]]=some (aI (bad (polB us qs gr))):=by
 refine aA (fn:=Tryz.f102) (c:=iC) rfl (by kernel_rfl) (by kernel_rfl) (by kernel_rfl) (by kernel_rfl) ?_;refine vl _ _ _ fun g=>?_
 simp[af,ah,ad,ae,ab, *,qf,hu.r,hq.r]
 refine Po (gr:=gr) hu hq hql hul us 0 _ _ _ rfl (by omega) rfl ?_ ?_ ?_
 ·simp(maxDischargeDepth:=12) [aq,aj,Fr.nil,au,af,ah,ad,ae,ao,ak,ab, *]
 ·simp(maxDischargeDepth:=12) [aq,aj,Fr.nil,au,af,ah,ad,ae,ao,ak,ab, *]
 rintro y H' rfl
 simp only[LC (f:=17) (by rfl),bx,Nv,Option.some.injEq]
 rw[polB,ndec,ndec]
 have e (n:Nat):decide ((n:Int)≤8)=decide (n≤8):=by congr 1;exact propext (by omega)
 simp only[e,Bool.and_assoc]
@[simp] theorem CP(a:UInt8)(b:UInt32):limf env 104 [.agg [xu,xq,aI gr],.agg [a8 a,a32 b]]=some (aI (xg us qs gr a)):=by
 refine aA (fn:=Tryz.f104) (c:=pU) rfl (by kernel_rfl) (by kernel_rfl) (by kernel_rfl) (by kernel_rfl) ?_;refine vj _ _ _ _ fun g=>?_
 simp[af,ah,ad,ae,ab, *,qc,hu.r,hq.r,uX hu hq hql hul,xg]
end
end Go.Proofs.YtmkmimgokagimaaGreat
