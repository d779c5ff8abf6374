/-
  Labels: what the functions answer. No statement of a seat is proved here.
-/
import Derived.Test.YtmkmimgokagimaaGreatLeVc7
import Derived.Test.YtmkmimgokagimaaGreatLeVc1
import Derived.Test.YtmkmimgokagimaaGreatMLePol
import Derived.Test.YtmkmimgokagimaaGreatAbsRules
set_option linter.unusedVariables false
set_option linter.unusedSimpArgs false
set_option linter.unusedSectionVars false
set_option linter.unnecessarySimpa false
set_option maxRecDepth 100000
namespace Go.Proofs.YtmkmimgokagimaaGreat
open Go.Ab
attribute [local simp] bn aV keep thr
@[simp] theorem Oi(a:UInt8)(b:UInt32):limf env 76 [.agg [a8 a,a32 b]]=some (aI (qN a)):=by
 refine az (fn:=Tryz.f76) (c:=nv) rfl (by kernel_rfl) (by kernel_rfl) (by kernel_rfl) (by kernel_rfl) ?_;refine qG _ _ _ fun g=>?_
 simp[af,ah,ad,ae,ab, *,nB]
 repeat' ((first | refine mM (fun h=>?_) (fun h=>?_) | refine kD (fun h=>?_) (fun h=>?_) | refine kE (fun h=>?_) (fun h=>?_) | refine kB (fun h=>?_) (fun h=>?_) | refine kC (fun h=>?_) (fun h=>?_))<;>(try simp only[decide_eq_true_eq,decide_eq_false_iff_not,Bool.not_eq_true',Bool.not_eq_false',Bool.and_eq_true,Bool.or_eq_true]at h)<;>(try simp[af,ah,ad,ae,ab, *,qN]))
@[simp] theorem TG(a:UInt8)(b:UInt32)(c:UInt8)(d:UInt32):limf env 47 [.agg [a8 a,a32 b],.agg [a8 c,a32 d]]=some (aB (leqB a b c d)):=by
 refine az (fn:=Tryz.f47) (c:=pR) rfl (by kernel_rfl) (by kernel_rfl) (by kernel_rfl) (by kernel_rfl) ?_;refine tO _ _ _ _ fun g=>?_
 simp[af,ah,ad,ae,ab, *,p9]
 repeat' ((first | refine mM (fun h=>?_) (fun h=>?_) | refine kD (fun h=>?_) (fun h=>?_) | refine kE (fun h=>?_) (fun h=>?_) | refine kB (fun h=>?_) (fun h=>?_) | refine kC (fun h=>?_) (fun h=>?_))<;>(try simp only[decide_eq_true_eq,decide_eq_false_iff_not,Bool.not_eq_true',Bool.not_eq_false',Bool.and_eq_true,Bool.or_eq_true]at h)<;>(try simp[af,ah,ad,ae,ab, *,leqB]))
@[simp] theorem Ss(a:UInt8)(b:UInt32)(c:UInt8)(d:UInt32):limf env 169 [.agg [a8 a,a32 b],.agg [a8 c,a32 d]]=some (aB (pV a b c d)):=by
 refine az (fn:=Tryz.f169) (c:=qY) rfl (by kernel_rfl) (by kernel_rfl) (by kernel_rfl) (by kernel_rfl) ?_;refine xk _ _ _ _ fun g=>?_
 simp[af,ah,ad,ae,ab, *,rf,kG,eqA,eqFs]
 repeat' ((first | refine mM (fun h=>?_) (fun h=>?_) | refine kD (fun h=>?_) (fun h=>?_) | refine kE (fun h=>?_) (fun h=>?_) | refine kB (fun h=>?_) (fun h=>?_) | refine kC (fun h=>?_) (fun h=>?_))<;>(try simp only[decide_eq_true_eq,decide_eq_false_iff_not,Bool.not_eq_true',Bool.not_eq_false',Bool.and_eq_true,Bool.or_eq_true]at h)<;>(try simp[af,ah,ad,ae,ab, *,pV,kG,eqA,eqFs]))
@[simp] theorem K9:limf env 185 []=some (.agg [a8 0,a32 0]):=by
 refine az (fn:=Tryz.f185) (c:=nu) rfl (by kernel_rfl) (by kernel_rfl) (by kernel_rfl) (by kernel_rfl) ?_;refine qF _ _ fun g=>?_
 simp[af,ah,ad,ae,ab, *,nA,kG]
@[simp] theorem TD(n m:Int):limf env 167 [aI n,aI m]=some (aB (decide (0≤n)&&decide (n≤m))):=by
 refine az (fn:=Tryz.f167) (c:=qU) rfl (by kernel_rfl) (by kernel_rfl) (by kernel_rfl) (by kernel_rfl) ?_;refine xf _ _ _ _ fun g=>?_
 simp[af,ah,ad,ae,ab, *,q7]
 repeat' ((first | refine mM (fun h=>?_) (fun h=>?_) | refine kD (fun h=>?_) (fun h=>?_) | refine kE (fun h=>?_) (fun h=>?_) | refine kB (fun h=>?_) (fun h=>?_) | refine kC (fun h=>?_) (fun h=>?_))<;>(try simp only[decide_eq_true_eq,decide_eq_false_iff_not,Bool.not_eq_true',Bool.not_eq_false',Bool.and_eq_true,Bool.or_eq_true]at h)<;>(try simp[af,ah,ad,ae,ab, *]))
@[simp] theorem So(v:UInt8)(c:UInt32)(ok:Bool):limf env 168 [.agg [a8 v,a32 c,aB ok]]=some (aB (DT v c ok)):=by
 refine az (fn:=Tryz.f168) (c:=pL) rfl (by kernel_rfl) (by kernel_rfl) (by kernel_rfl) (by kernel_rfl) ?_;refine vl _ _ _ fun g=>?_
 simp[af,ah,ad,ae,ab, *,p4,kG,eqA,eqFs]
 repeat' ((first | refine mM (fun h=>?_) (fun h=>?_) | refine kD (fun h=>?_) (fun h=>?_) | refine kE (fun h=>?_) (fun h=>?_) | refine kB (fun h=>?_) (fun h=>?_) | refine kC (fun h=>?_) (fun h=>?_))<;>(try simp only[decide_eq_true_eq,decide_eq_false_iff_not,Bool.not_eq_true',Bool.not_eq_false',Bool.and_eq_true,Bool.or_eq_true]at h)<;>(try simp[af,ah,ad,ae,ab, *,DT,kG,eqA,eqFs]))
end Go.Proofs.YtmkmimgokagimaaGreat
namespace Go.Proofs.YtmkmimgokagimaaGreat
open Go.Ab
attribute [local simp] bn aV keep thr
def pD(b:Bool):List Bool→Nat→Int
 | [],_ => -1
 | x :: l,k=>if b=x then k else pD b l (k+1)
theorem LJ(b:Bool) : ∀(l:List Bool)(k:Nat),(0≤pD b l k↔l.contains b=true):=by
 intro l
 induction l with
 | nil=>intro k;simp[pD]
 | cons x l ih =>
  intro k
  unfold pD
  split
  ·rename_i e;subst e;simp
  ·rename_i e
   rw[ih (k+1)]
   have:(b == x)=false:=by cases b<;>cases x<;>simp_all
   simp only[List.contains_cons,this,Bool.false_or]
section
variable{x0:AV}{l:List Bool}(hx:Sl 1 (S6 l) x0)(hl:l.length<4611686018427387904)
include hx hl
theorem EE{b:Bool}{Q:AV→Heap→Prop} : ∀(s:List Bool)(k:Nat)(i:Int)(H:Heap),l.drop k=s→k≤l.length→i=k→(∀y H',y=aI (pD b s k)→Q y H') →
 GoL env Tryz.f227 0 cY [(8,aI i),(0,x0),(1,aB b),(7,aI l.length)] H Q:=by
 intro s
 induction s with
 | nil =>
  rintro k i H hs hk rfl h
  obtain rfl:=drop_nil hs hk
  refine gA _ _ _ _ _ _ fun g=>?_
  simp[af,ah,ad,ae,ab, *,ep]
  exact h _ H rfl
 | cons a s ih =>
  rintro k i H hs hk rfl h
  obtain⟨hlt,hg,hs',hg'⟩:=drop_cons hs
  refine gA _ _ _ _ _ _ fun g=>?_
  simp[af,ah,ad,ae,ab, *,ep,hx.idx,hlt,hg,IntWalk.i64_in ((k:Int)+1) (by omega)]
  refine PJ (fun e=>?_) (fun e=>?_)
  ·exact h _ _ (by simp[pD,e])
  ·simp[IntWalk.i64_in ((k:Int)+1) (by omega)]
   exact ih (k+1) _ _ hs' (by omega) (by omega) (fun y H' ey=>h y H' (by simp[pD,e,ey]))
@[simp] theorem La(b:Bool):limf env 227 [x0,aB b]=some (aI (pD b l 0)):=by
 refine az (fn:=Tryz.f227) (c:=eW) rfl (by kernel_rfl) (by kernel_rfl) (by kernel_rfl) (by kernel_rfl) ?_;refine lZ _ _ _ _ fun g=>?_
 simp[af,ah,ad,ae,ab, *,ir,hx.len]
 exact EE hx hl l 0 _ _ rfl (by omega) (by simp) (fun y H' e=>by simp[e])
@[simp] theorem Ed(b:Bool):limf env 212 [x0,aB b]=some (aB (l.contains b)):=by
 refine az (fn:=Tryz.f212) (c:=gq) rfl (by kernel_rfl) (by kernel_rfl) (by kernel_rfl) (by kernel_rfl) ?_;refine kZ _ _ _ _ fun g=>?_
 have:=LJ b l 0
 simp[af,ah,ad,ae,ab, *,gx,hx.r,La hx hl,this]
@[simp] theorem JX:limf env 166 [x0]=some (aB (l.all id)):=by
 refine az (fn:=Tryz.f166) (c:=sJ) rfl (by kernel_rfl) (by kernel_rfl) (by kernel_rfl) (by kernel_rfl) ?_;refine yR _ _ _ fun g=>?_
 have:(!l.contains false)=l.all id:=by
  clear hx hl
  induction l with
  | nil=>rfl
  | cons b l ih=>cases b<;>simp_all
 simp[af,ah,ad,ae,ab, *,sT,hx.r,Ed hx hl,←this]
end
@[simp] theorem TF(a b c:Bool):limf env 166 [.isl 1 [aB a,aB b,aB c] (some 3)]=some (aB (a&&(b&&c))):=by
 have:=JX (l:=[a,b,c]) (x0 := .isl 1 [aB a,aB b,aB c] (some 3)) (.inr ⟨_,rfl,by simp⟩) (by simp);simpa using this
@[simp] theorem TE(a b c d e:Bool):limf env 166 [.isl 1 [aB a,aB b,aB c,aB d,aB e] (some 5)]=some (aB (a&&(b&&(c&&(d&&e))))):=by
 have:=JX (l:=[a,b,c,d,e]) (x0 := .isl 1 [aB a,aB b,aB c,aB d,aB e] (some 5)) (.inr ⟨_,rfl,by simp⟩) (by simp);simpa using this
theorem CP{x9:AV}{Q:AV→Heap→Prop}{l:List Quota}(hx:Sl 5 (gS l) x9)(hl:l.length<4611686018427387904) : ∀(s:List Quota)(k:Nat)(i n:Int)(H:Heap),l.drop k=s→k≤l.length→i=k →
 (∀y H',y=aI (gT n s)→Q y H') →
 GoL env Tryz.f103 0 ic [(11,aI i),(3,aI n),(9,x9),(10,aI l.length)] H Q:=by
 intro s
 induction s with
 | nil =>
  rintro k i n H hs hk rfl h
  obtain rfl:=drop_nil hs hk
  refine mO _ _ _ _ _ _ fun g=>?_
  simp[af,ah,ad,ae,ab, *,kQ]
  exact h _ H rfl
 | cons a s ih =>
  rintro k i n H hs hk rfl h
  obtain⟨hlt,hg,hs',hg'⟩:=drop_cons hs
  refine mO _ _ _ _ _ _ fun g=>?_
  simp[af,ah,ad,ae,ab, *,kQ,hx.idx,hlt,hg,Quota.enc,IntWalk.i64_in ((k:Int)+1) (by omega)]
  exact ih (k+1) _ _ _ hs' (by omega) (by omega) h
section
variable{xu xq:AV}{us:List Clear}{qs:List Quota}{gr:Int}(hu:Sl 3 (gz us) xu)(hq:Sl 5 (gS qs) xq)(hql:qs.length<4611686018427387904)(hul:us.length<4611686018427387904)
include hu hq hql
@[simp] theorem AE:limf env 103 [.agg [xu,xq,aI gr]]=some (aI (gT gr qs)):=by
 refine az (fn:=Tryz.f103) (c:=lU) rfl (by kernel_rfl) (by kernel_rfl) (by kernel_rfl) (by kernel_rfl) ?_;refine uC _ _ _ fun g=>?_
 simp[af,ah,ad,ae,ab, *,pd,hu.r,hq.r]
 exact CP hq hql qs 0 _ _ _ rfl (by omega) rfl (fun y H' e=>by simp[e])
theorem My{x85:AV}{r1:Ref}{may:Bool}{Q:AV→Heap→Prop}{l:List Quota}(hx:Sl 5 (gS l) x85)(hl:l.length<4611686018427387904) : ∀(s:List Quota)(k:Nat)(i n:Int)(H:Heap),l.drop k=s→k≤l.length→i=k →
 Fr H→H.get r1=some ⟨3,[.agg [xu,xq,aI gr]],false,false⟩ →
 (∀y H',y=aI (bad (may&&(!decide (2048<gT gr qs) && !decide (8192<cellsOf n s))))→Q y H') →
 GoL env Tryz.f102 0 ig [(87,aI i),(8,aI n),(85,x85),(1,.ptr r1 0 0),(3,aB may),(86,aI l.length)] H Q:=by
 intro s
 induction s with
 | nil =>
  rintro k i n H hs hk rfl hF hB h
  obtain rfl:=drop_nil hs hk
  refine mP _ _ _ _ _ _ _ _ fun g=>?_
  have hb:=AE (gr:=gr) hu hq hql
  simp[af,ah,ad,ae,ab, *,kR]
  repeat' ((first | refine mM (fun h=>?_) (fun h=>?_) | refine kD (fun h=>?_) (fun h=>?_) | refine kE (fun h=>?_) (fun h=>?_) | refine kB (fun h=>?_) (fun h=>?_) | refine kC (fun h=>?_) (fun h=>?_))<;>(try simp only[decide_eq_true_eq,decide_eq_false_iff_not,Bool.not_eq_true',Bool.not_eq_false',Bool.and_eq_true,Bool.or_eq_true]at h)<;>(try simp[af,ah,ad,ae,ab, *,hu.r,hq.r,hb,bad,cellsOf]))
 | cons a s ih =>
  rintro k i n H hs hk rfl hF hB h
  obtain⟨hlt,hg,hs',hg'⟩:=drop_cons hs
  refine mP _ _ _ _ _ _ _ _ fun g=>?_
  simp[af,ah,ad,ae,ab, *,kR,hx.idx,hlt,hg,Quota.enc,IntWalk.i64_in ((k:Int)+1) (by omega)]
  exact ih (k+1) _ _ _ hs' (by omega) (by omega) (by simp(maxDischargeDepth:=12) [aq,aj,Fr.nil,ax,af,ah,ad,ae,ao,ak,ab, *]) (by simp(maxDischargeDepth:=12) [aq,aj,Fr.nil,ax,af,ah,ad,ae,ao,ak,ab, *]) h
def goQ(may:Bool)(p:Option Quota):List Quota→Bool
 | []=>may
 | q :: s=>goQ (may&&(qOwn q&&(match p with | none=>true | some p=>B2 p q))) (some q) s
theorem PC{r1:Ref}{Q:AV→Heap→Prop} : ∀(s:List Quota)(k:Nat)(i:Int)(may:Bool)(H:Heap),qs.drop k=s→k≤qs.length→i=k →
 Fr H→H.get r1=some ⟨3,[.agg [xu,xq,aI gr]],false,false⟩ →
 (∀y H',y=aI (bad (goQ may (if k=0 then none else qs[k - 1]?) s&&(!decide (2048<gT gr qs) && !decide (8192<cellsOf 0 (qs.take 8)))))→Q y H') →
 GoL env Tryz.f102 0 iJ [(40,aI i),(1,.ptr r1 0 0),(3,aB may),(38,xq),(39,aI qs.length)] H Q:=by
 intro s
 induction s with
 | nil =>
  rintro k i may H hs hk rfl hF hB h
  obtain rfl:=drop_nil hs hk
  refine nG _ _ _ _ _ _ _ fun g=>?_
  have hmin:(if (8:Int)<qs.length then (8:Int) else qs.length)=((min 8 qs.length:Nat):Int):=by split<;>omega
  have hs:=zg (P:=env.P) (t:=23) (z:=5) (by simp) H.get hq (n:=((min 8 qs.length:Nat):Int)) (by omega) (by simp;omega)
  obtain⟨y,ey,sy⟩:=hs
  have ht:(gS qs).take (min 8 qs.length)=gS (qs.take 8):=by
   rw[←List.map_take];congr 1
   rcases Nat.le_total 8 qs.length with h | h
   ·rw[Nat.min_eq_left h]
   ·rw[Nat.min_eq_right h,List.take_of_length_le (Nat.le_refl _),List.take_of_length_le h]
  rw[Int.toNat_natCast,ht]at sy
  simp[af,ah,ad,ae,ab, *,fb,hB,hq.len,hmin,ey,sy.len]
  have hl8:(qs.take 8).length=min 8 qs.length:=List.length_take
  rw[←hl8]
  exact My hu hq hql sy (by omega) _ 0 0 0 H rfl (by omega) rfl hF hB (fun y H' e=>h y H' (by simpa [goQ] using e))
 | cons a s ih =>
  rintro k i may H hs hk rfl hF hB h
  obtain⟨hlt,hg,hs',hg'⟩:=drop_cons hs
  have hi:=ih (k+1)
  refine nG _ _ _ _ _ _ _ fun g=>?_
  cases k with
  | zero =>
   have e1:IntKind.i64.wrap 1=1:=rfl
   cases may
   ·simp[af,ah,ad,ae,ab, *,fb,hq.idx,hlt,hg,Quota.enc,e1]
    exact hi _ _ _ hs' (by omega) rfl (by simp(maxDischargeDepth:=12) [aq,aj,Fr.nil,ax,af,ah,ad,ae,ao,ak,ab, *]) (by simp(maxDischargeDepth:=12) [aq,aj,Fr.nil,ax,af,ah,ad,ae,ao,ak,ab, *]) (fun y H' e=>h y H' (by simpa [goQ,hg'] using e))
   ·simp[af,ah,ad,ae,ab, *,fb,hq.idx,hlt,hg,Quota.enc,e1]
    exact hi _ _ _ hs' (by omega) rfl (by simp(maxDischargeDepth:=12) [aq,aj,Fr.nil,ax,af,ah,ad,ae,ao,ak,ab, *]) (by simp(maxDischargeDepth:=12) [aq,aj,Fr.nil,ax,af,ah,ad,ae,ao,ak,ab, *]) (fun y H' e=>h y H' (by simpa [goQ,hg',qOwn] using e))
  | succ k =>
   have e1:IntKind.i64.wrap ((k:Int)+1+1)=(k:Int)+1+1:=IntWalk.i64_in _ (by omega)
   have e2:IntKind.i64.wrap (k:Int)=k:=IntWalk.i64_in _ (by omega)
   have e3 : ¬(k:Int)<0:=by omega
   have e4 : ¬(k:Int)+1=0:=by omega
   have e5:k<qs.length:=by omega
   have e6:(k:Int)+1<qs.length:=by omega
   have e7:(0:Int)≤k+1:=by omega
   cases may
   ·simp[af,ah,ad,ae,ab, *,fb,hq.idx,hlt,hg,Quota.enc,e1,e2,e3,e4,e5,e6,e7]
    exact hi _ _ _ hs' (by omega) (by simp) (by simp(maxDischargeDepth:=12) [aq,aj,Fr.nil,ax,af,ah,ad,ae,ao,ak,ab, *]) (by simp(maxDischargeDepth:=12) [aq,aj,Fr.nil,ax,af,ah,ad,ae,ao,ak,ab, *]) (fun y H' e=>h y H' (by simpa [goQ,hg'] using e))
   ·simp[af,ah,ad,ae,ab, *,fb,hq.idx,hlt,hg,Quota.enc,e1,e2,e3,e4,e5,e6,e7,hB,af hF (q:=r1)]
    exact hi _ _ _ hs' (by omega) (by simp) (by simp(maxDischargeDepth:=12) [aq,aj,Fr.nil,ax,af,ah,ad,ae,ao,ak,ab, *]) (by simp(maxDischargeDepth:=12) [aq,aj,Fr.nil,ax,af,ah,ad,ae,ao,ak,ab, *]) (fun y H' e=>h y H' (by simpa [goQ,hg',qOwn,B2,List.getElem?_eq_getElem e5,Bool.and_assoc] using e))
omit hu hq hql in
theorem LL : ∀(s:List Quota)(may:Bool)(p:Option Quota),goQ may p s=(may&&qRow p s):=by
 intro s
 induction s with
 | nil=>intro may p;simp[goQ,qRow]
 | cons q s ih=>intro may p;cases p<;>simp[goQ,qRow,ih,Bool.and_assoc]
include hul
theorem PD{r1:Ref}{Q:AV→Heap→Prop} : ∀(s:List Clear)(k:Nat)(i:Int)(may:Bool)(H:Heap),us.drop k=s→k≤us.length→i=k →
 Fr H→H.get r1=some ⟨3,[.agg [xu,xq,aI gr]],false,false⟩ →
 (∀y H',y=aI (bad (((may&&s.all fun c=>DT c.lv c.cats c.ok)&&qRow none qs)&&(!decide (2048<gT gr qs) && !decide (8192<cellsOf 0 (qs.take 8)))))→Q y H') →
 GoL env Tryz.f102 0 iK [(27,aI i),(3,aB may),(25,xu),(1,.ptr r1 0 0),(26,aI us.length)] H Q:=by
 intro s
 induction s with
 | nil =>
  rintro k i may H hs hk rfl hF hB hQ
  obtain rfl:=drop_nil hs hk
  refine nH _ _ _ _ _ _ _ fun g=>?_
  simp[af,ah,ad,ae,ab, *,lg,hB,hq.len]
  exact PC hu hq hql qs 0 0 may H rfl (by omega) rfl hF hB (fun y H' e=>hQ y H' (by simpa [LL] using e))
 | cons a s ih =>
  rintro k i may H hs hk rfl hF hB hQ
  obtain⟨hlt,hg,hs',hg'⟩:=drop_cons hs
  refine nH _ _ _ _ _ _ _ fun g=>?_
  simp[af,ah,ad,ae,ab, *,lg,hu.idx,hlt,hg,Clear.enc]
  repeat' ((first | refine mM (fun h=>?_) (fun h=>?_) | refine kD (fun h=>?_) (fun h=>?_) | refine kE (fun h=>?_) (fun h=>?_) | refine kB (fun h=>?_) (fun h=>?_) | refine kC (fun h=>?_) (fun h=>?_))<;>(try simp only[decide_eq_true_eq,decide_eq_false_iff_not,Bool.not_eq_true',Bool.not_eq_false',Bool.and_eq_true,Bool.or_eq_true]at h)<;>(try simp[af,ah,ad,ae,ab, *,hu.idx,hlt,hg,Clear.enc]))
  ·simp[IntWalk.i64_in ((k:Int)+1) (by omega)]
   exact ih (k+1) _ _ _ hs' (by omega) (by simp) (by simp(maxDischargeDepth:=12) [aq,aj,Fr.nil,ax,af,ah,ad,ae,ao,ak,ab, *]) (by simp(maxDischargeDepth:=12) [aq,aj,Fr.nil,ax,af,ah,ad,ae,ao,ak,ab, *]) (fun y H' e=>hQ y H' (by simp[*,Bool.and_assoc]))
  ·simp[IntWalk.i64_in ((k:Int)+1) (by omega)]
   exact ih (k+1) _ _ _ hs' (by omega) (by simp) (by simp(maxDischargeDepth:=12) [aq,aj,Fr.nil,ax,af,ah,ad,ae,ao,ak,ab, *]) (by simp(maxDischargeDepth:=12) [aq,aj,Fr.nil,ax,af,ah,ad,ae,ao,ak,ab, *]) (fun y H' e=>hQ y H' (by simp[*,Bool.and_assoc]))
@[simp] theorem rZ:limf env 102 [.agg [xu,xq,aI gr]]=some (aI (bad (polB us qs gr))):=by
 refine az (fn:=Tryz.f102) (c:=iD) rfl (by kernel_rfl) (by kernel_rfl) (by kernel_rfl) (by kernel_rfl) ?_;refine vp _ _ _ fun g=>?_
 simp[af,ah,ad,ae,ab, *,p7,hu.r,hq.r]
 refine PD (gr:=gr) hu hq hql hul us 0 _ _ _ rfl (by omega) rfl ?_ ?_ ?_
 ·simp(maxDischargeDepth:=12) [aq,aj,Fr.nil,ax,af,ah,ad,ae,ao,ak,ab, *]
 ·simp(maxDischargeDepth:=12) [aq,aj,Fr.nil,ax,af,ah,ad,ae,ao,ak,ab, *]
 rintro y H' rfl
 simp only[LK (f:=17) (by rfl),bn,NC,Option.some.injEq]
 rw[polB,ndec,ndec]
 have e (n:Nat):decide ((n:Int)≤8)=decide (n≤8):=by congr 1;exact propext (by omega)
 simp only[e,Bool.and_assoc]
@[simp] theorem De(a:UInt8)(b:UInt32):limf env 104 [.agg [xu,xq,aI gr],.agg [a8 a,a32 b]]=some (aI (sg us qs gr a)):=by
 refine az (fn:=Tryz.f104) (c:=pM) rfl (by kernel_rfl) (by kernel_rfl) (by kernel_rfl) (by kernel_rfl) ?_;refine vm _ _ _ _ fun g=>?_
 simp[af,ah,ad,ae,ab, *,p5,hu.r,hq.r,rZ hu hq hql hul,sg]
end
end Go.Proofs.YtmkmimgokagimaaGreat
