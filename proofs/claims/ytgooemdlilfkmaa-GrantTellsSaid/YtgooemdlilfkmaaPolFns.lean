/-
  The functions of policy: what they answer. No statement of a seat is proved here.
-/
import Derived.Test.YtgooemdlilfkmaaPolLabel
set_option linter.unusedVariables false
set_option linter.unusedSimpArgs false
set_option maxRecDepth 100000
namespace Go.Proofs.Ytgooemdlilfkmaa
open Go.Ab
attribute [local simp] cA bA keep thr
def jZ(b:Bool):List Bool→Nat→Int
 | [],_ => -1
 | x :: l,k=>if b=x then k else jZ b l (k+1)
theorem yg(b:Bool) : ∀(l:List Bool)(k:Nat),(0≤jZ b l k↔l.contains b=true):=by
 intro l
 induction l with
 | nil=>intro k;simp[jZ]
 | cons x l ih =>
  intro k
  unfold jZ
  split
  ·rename_i e;subst e;simp
  ·rename_i e
   rw[ih (k+1)]
   have:(b == x)=false:=by cases b<;>cases x<;>simp_all
   simp only[List.contains_cons,this,Bool.false_or]
section
variable{x0:AV}{l:List Bool}(hx:Sl 1 (CA l) x0)(hl:l.length<4611686018427387904)
include hx hl
theorem sF{b:Bool}{Q:AV→Heap→Prop} : ∀(s:List Bool)(k:Nat)(i:Int)(H:Heap),l.drop k=s→k≤l.length→i=k→(∀y H',y=aI (jZ b s k)→Q y H') →
 GoL env Try.f80 0 bF [(8,aI i),(0,x0),(1,aB b),(7,aI l.length)] H Q:=by
 intro s
 induction s with
 | nil =>
  rintro k i H hs hk rfl h
  obtain rfl:=drop_nil hs hk
  refine dx _ _ _ _ _ _ fun g=>?_
  simp[ae,af,ab,ad,aa, *,ct]
  exact h _ H rfl
 | cons a s ih =>
  rintro k i H hs hk rfl h
  obtain⟨hlt,hg,hs',hg'⟩:=drop_cons hs
  refine dx _ _ _ _ _ _ fun g=>?_
  simp[ae,af,ab,ad,aa, *,ct,hx.idx,hlt,hg,IntWalk.i64_in ((k:Int)+1) (by omega)]
  refine Au (fun e=>?_) (fun e=>?_)
  ·exact h _ _ (by simp[jZ,e])
  ·simp[IntWalk.i64_in ((k:Int)+1) (by omega)]
   exact ih (k+1) _ _ hs' (by omega) (by omega) (fun y H' ey=>h y H' (by simp[jZ,e,ey]))
@[simp] theorem xE(b:Bool):limf env 80 [x0,aB b]=some (aI (jZ b l 0)):=by
 refine aH (fn:=Try.f80) (c:=cH) rfl (by kernel_rfl) (by kernel_rfl) (by kernel_rfl) (by kernel_rfl) ?_;refine gD _ _ _ _ fun g=>?_
 simp[ae,af,ab,ad,aa, *,dY,hx.len]
 exact sF hx hl l 0 _ _ rfl (by omega) (by simp) (fun y H' e=>by simp[e])
@[simp] theorem sa(b:Bool):limf env 71 [x0,aB b]=some (aB (l.contains b)):=by
 refine aH (fn:=Try.f71) (c:=dt) rfl (by kernel_rfl) (by kernel_rfl) (by kernel_rfl) (by kernel_rfl) ?_;refine fR _ _ _ _ fun g=>?_
 have:=yg b l 0
 simp[ae,af,ab,ad,aa, *,dv,hx.r,xE hx hl,this]
@[simp] theorem zF:limf env 48 [x0]=some (aB (l.all id)):=by
 refine aH (fn:=Try.f48) (c:=lG) rfl (by kernel_rfl) (by kernel_rfl) (by kernel_rfl) (by kernel_rfl) ?_;refine ow _ _ _ fun g=>?_
 have:(!l.contains false)=l.all id:=by
  clear hx hl
  induction l with
  | nil=>rfl
  | cons b l ih=>cases b<;>simp_all
 simp[ae,af,ab,ad,aa, *,lJ,hx.r,sa hx hl,←this]
end
@[simp] theorem CW(a b c:Bool):limf env 48 [.isl 1 [aB a,aB b,aB c] (some 3)]=some (aB (a&&(b&&c))):=by
 have:=zF (l:=[a,b,c]) (x0 := .isl 1 [aB a,aB b,aB c] (some 3)) (.inr ⟨_,rfl,by simp⟩) (by simp);simpa using this
@[simp] theorem CV(a b c d e:Bool):limf env 48 [.isl 1 [aB a,aB b,aB c,aB d,aB e] (some 5)]=some (aB (a&&(b&&(c&&(d&&e))))):=by
 have:=zF (l:=[a,b,c,d,e]) (x0 := .isl 1 [aB a,aB b,aB c,aB d,aB e] (some 5)) (.inr ⟨_,rfl,by simp⟩) (by simp);simpa using this
theorem q7{x9:AV}{Q:AV→Heap→Prop}{l:List Quota}(hx:Sl 5 (ay l) x9)(hl:l.length<4611686018427387904) : ∀(s:List Quota)(k:Nat)(i n:Int)(H:Heap),l.drop k=s→k≤l.length→i=k →
 (∀y H',y=aI (gG n s)→Q y H') →
 GoL env Try.f52 0 dU [(11,aI i),(3,aI n),(9,x9),(10,aI l.length)] H Q:=by
 intro s
 induction s with
 | nil =>
  rintro k i n H hs hk rfl h
  obtain rfl:=drop_nil hs hk
  refine ib _ _ _ _ _ _ fun g=>?_
  simp[ae,af,ab,ad,aa, *,fD]
  exact h _ H rfl
 | cons a s ih =>
  rintro k i n H hs hk rfl h
  obtain⟨hlt,hg,hs',hg'⟩:=drop_cons hs
  refine ib _ _ _ _ _ _ fun g=>?_
  simp[ae,af,ab,ad,aa, *,fD,hx.idx,hlt,hg,Quota.enc,IntWalk.i64_in ((k:Int)+1) (by omega)]
  exact ih (k+1) _ _ _ hs' (by omega) (by omega) h
section
variable{xu xq:AV}{us:List Clear}{qs:List Quota}{gr:Int}(hu:Sl 3 (av us) xu)(hq:Sl 5 (ay qs) xq)(hql:qs.length<4611686018427387904)(hul:us.length<4611686018427387904)
include hu hq hql
@[simp] theorem vt:limf env 52 [.agg [xu,xq,aI gr]]=some (aI (gG gr qs)):=by
 refine aH (fn:=Try.f52) (c:=gz) rfl (by kernel_rfl) (by kernel_rfl) (by kernel_rfl) (by kernel_rfl) ?_;refine l9 _ _ _ fun g=>?_
 simp[ae,af,ab,ad,aa, *,jy,hu.r,hq.r]
 exact q7 hq hql qs 0 _ _ _ rfl (by omega) rfl (fun y H' e=>by simp[e])
theorem yJ{x85:AV}{r1:Ref}{may:Bool}{Q:AV→Heap→Prop}{l:List Quota}(hx:Sl 5 (ay l) x85)(hl:l.length<4611686018427387904) : ∀(s:List Quota)(k:Nat)(i n:Int)(H:Heap),l.drop k=s→k≤l.length→i=k →
 Fr H→H.get r1=some ⟨3,[.agg [xu,xq,aI gr]],false,false⟩ →
 (∀y H',y=aI (bad (may&&(!decide (2048<gG gr qs) && !decide (8192<cellsOf n s))))→Q y H') →
 GoL env Try.f17 0 dV [(87,aI i),(8,aI n),(85,x85),(1,.ptr r1 0 0),(3,aB may),(86,aI l.length)] H Q:=by
 intro s
 induction s with
 | nil =>
  rintro k i n H hs hk rfl hF hB h
  obtain rfl:=drop_nil hs hk
  refine ic _ _ _ _ _ _ _ _ fun g=>?_
  have hb:=vt (gr:=gr) hu hq hql
  simp[ae,af,ab,ad,aa, *,fE]
  repeat' ((first | refine jM (fun h=>?_) (fun h=>?_) | refine gn (fun h=>?_) (fun h=>?_) | refine gp (fun h=>?_) (fun h=>?_) | refine gl (fun h=>?_) (fun h=>?_) | refine gm (fun h=>?_) (fun h=>?_))<;>(try simp only[decide_eq_true_eq,decide_eq_false_iff_not,Bool.not_eq_true',Bool.not_eq_false',Bool.and_eq_true,Bool.or_eq_true]at h)<;>(try simp[ae,af,ab,ad,aa, *,hu.r,hq.r,hb,bad,cellsOf]))
 | cons a s ih =>
  rintro k i n H hs hk rfl hF hB h
  obtain⟨hlt,hg,hs',hg'⟩:=drop_cons hs
  refine ic _ _ _ _ _ _ _ _ fun g=>?_
  simp[ae,af,ab,ad,aa, *,fE,hx.idx,hlt,hg,Quota.enc,IntWalk.i64_in ((k:Int)+1) (by omega)]
  exact ih (k+1) _ _ _ hs' (by omega) (by omega) (by simp(maxDischargeDepth:=12) [an,ai,Fr.nil,au,ae,af,ab,ad,al,ah,aa, *]) (by simp(maxDischargeDepth:=12) [an,ai,Fr.nil,au,ae,af,ab,ad,al,ah,aa, *]) h
def goQ(may:Bool)(p:Option Quota):List Quota→Bool
 | []=>may
 | q :: s=>goQ (may&&(qOwn q&&(match p with | none=>true | some p=>mJ p q))) (some q) s
theorem Aq{r1:Ref}{Q:AV→Heap→Prop} : ∀(s:List Quota)(k:Nat)(i:Int)(may:Bool)(H:Heap),qs.drop k=s→k≤qs.length→i=k →
 Fr H→H.get r1=some ⟨3,[.agg [xu,xq,aI gr]],false,false⟩ →
 (∀y H',y=aI (bad (goQ may (if k=0 then none else qs[k - 1]?) s&&(!decide (2048<gG gr qs) && !decide (8192<cellsOf 0 (qs.take 8)))))→Q y H') →
 GoL env Try.f17 0 ew [(40,aI i),(1,.ptr r1 0 0),(3,aB may),(38,xq),(39,aI qs.length)] H Q:=by
 intro s
 induction s with
 | nil =>
  rintro k i may H hs hk rfl hF hB h
  obtain rfl:=drop_nil hs hk
  refine iH _ _ _ _ _ _ _ fun g=>?_
  have hmin:(if (8:Int)<qs.length then (8:Int) else qs.length)=((min 8 qs.length:Nat):Int):=by split<;>omega
  have hs:=rp (P:=env.P) (t:=31) (z:=5) (by simp) H.get hq (n:=((min 8 qs.length:Nat):Int)) (by omega) (by simp;omega)
  obtain⟨y,ey,sy⟩:=hs
  have ht:(ay qs).take (min 8 qs.length)=ay (qs.take 8):=by
   rw[←List.map_take];congr 1
   rcases Nat.le_total 8 qs.length with h | h
   ·rw[Nat.min_eq_left h]
   ·rw[Nat.min_eq_right h,List.take_of_length_le (Nat.le_refl _),List.take_of_length_le h]
  rw[Int.toNat_natCast,ht]at sy
  simp[ae,af,ab,ad,aa, *,cM,hB,hq.len,hmin,ey,sy.len]
  have hl8:(qs.take 8).length=min 8 qs.length:=List.length_take
  rw[←hl8]
  exact yJ hu hq hql sy (by omega) _ 0 0 0 H rfl (by omega) rfl hF hB (fun y H' e=>h y H' (by simpa [goQ] using e))
 | cons a s ih =>
  rintro k i may H hs hk rfl hF hB h
  obtain⟨hlt,hg,hs',hg'⟩:=drop_cons hs
  have hi:=ih (k+1)
  refine iH _ _ _ _ _ _ _ fun g=>?_
  cases k with
  | zero =>
   have e1:IntKind.i64.wrap 1=1:=rfl
   cases may
   ·simp[ae,af,ab,ad,aa, *,cM,hq.idx,hlt,hg,Quota.enc,e1]
    exact hi _ _ _ hs' (by omega) rfl (by simp(maxDischargeDepth:=12) [an,ai,Fr.nil,au,ae,af,ab,ad,al,ah,aa, *]) (by simp(maxDischargeDepth:=12) [an,ai,Fr.nil,au,ae,af,ab,ad,al,ah,aa, *]) (fun y H' e=>h y H' (by simpa [goQ,hg'] using e))
   ·simp[ae,af,ab,ad,aa, *,cM,hq.idx,hlt,hg,Quota.enc,e1]
    exact hi _ _ _ hs' (by omega) rfl (by simp(maxDischargeDepth:=12) [an,ai,Fr.nil,au,ae,af,ab,ad,al,ah,aa, *]) (by simp(maxDischargeDepth:=12) [an,ai,Fr.nil,au,ae,af,ab,ad,al,ah,aa, *]) (fun y H' e=>h y H' (by simpa [goQ,hg',qOwn] using e))
  | succ k =>
   have e1:IntKind.i64.wrap ((k:Int)+1+1)=(k:Int)+1+1:=IntWalk.i64_in _ (by omega)
   have e2:IntKind.i64.wrap (k:Int)=k:=IntWalk.i64_in _ (by omega)
   have e3 : ¬(k:Int)<0:=by omega
   have e4 : ¬(k:Int)+1=0:=by omega
   have e5:k<qs.length:=by omega
   have e6:(k:Int)+1<qs.length:=by omega
   have e7:(0:Int)≤k+1:=by omega
   cases may
   ·simp[ae,af,ab,ad,aa, *,cM,hq.idx,hlt,hg,Quota.enc,e1,e2,e3,e4,e5,e6,e7]
    exact hi _ _ _ hs' (by omega) (by simp) (by simp(maxDischargeDepth:=12) [an,ai,Fr.nil,au,ae,af,ab,ad,al,ah,aa, *]) (by simp(maxDischargeDepth:=12) [an,ai,Fr.nil,au,ae,af,ab,ad,al,ah,aa, *]) (fun y H' e=>h y H' (by simpa [goQ,hg'] using e))
   ·simp[ae,af,ab,ad,aa, *,cM,hq.idx,hlt,hg,Quota.enc,e1,e2,e3,e4,e5,e6,e7,hB,ae hF (q:=r1)]
    exact hi _ _ _ hs' (by omega) (by simp) (by simp(maxDischargeDepth:=12) [an,ai,Fr.nil,au,ae,af,ab,ad,al,ah,aa, *]) (by simp(maxDischargeDepth:=12) [an,ai,Fr.nil,au,ae,af,ab,ad,al,ah,aa, *]) (fun y H' e=>h y H' (by simpa [goQ,hg',qOwn,mJ,List.getElem?_eq_getElem e5,Bool.and_assoc] using e))
omit hu hq hql in
theorem yj : ∀(s:List Quota)(may:Bool)(p:Option Quota),goQ may p s=(may&&qRow p s):=by
 intro s
 induction s with
 | nil=>intro may p;simp[goQ,qRow]
 | cons q s ih=>intro may p;cases p<;>simp[goQ,qRow,ih,Bool.and_assoc]
include hul
theorem Ar{r1:Ref}{Q:AV→Heap→Prop} : ∀(s:List Clear)(k:Nat)(i:Int)(may:Bool)(H:Heap),us.drop k=s→k≤us.length→i=k →
 Fr H→H.get r1=some ⟨3,[.agg [xu,xq,aI gr]],false,false⟩ →
 (∀y H',y=aI (bad (((may&&s.all fun c=>jf c.lv c.cats c.ok)&&qRow none qs)&&(!decide (2048<gG gr qs) && !decide (8192<cellsOf 0 (qs.take 8)))))→Q y H') →
 GoL env Try.f17 0 eA [(27,aI i),(3,aB may),(25,xu),(1,.ptr r1 0 0),(26,aI us.length)] H Q:=by
 intro s
 induction s with
 | nil =>
  rintro k i may H hs hk rfl hF hB hQ
  obtain rfl:=drop_nil hs hk
  refine iI _ _ _ _ _ _ _ fun g=>?_
  simp[ae,af,ab,ad,aa, *,fX,hB,hq.len]
  exact Aq hu hq hql qs 0 0 may H rfl (by omega) rfl hF hB (fun y H' e=>hQ y H' (by simpa [yj] using e))
 | cons a s ih =>
  rintro k i may H hs hk rfl hF hB hQ
  obtain⟨hlt,hg,hs',hg'⟩:=drop_cons hs
  refine iI _ _ _ _ _ _ _ fun g=>?_
  simp[ae,af,ab,ad,aa, *,fX,hu.idx,hlt,hg,Clear.enc]
  repeat' ((first | refine jM (fun h=>?_) (fun h=>?_) | refine gn (fun h=>?_) (fun h=>?_) | refine gp (fun h=>?_) (fun h=>?_) | refine gl (fun h=>?_) (fun h=>?_) | refine gm (fun h=>?_) (fun h=>?_))<;>(try simp only[decide_eq_true_eq,decide_eq_false_iff_not,Bool.not_eq_true',Bool.not_eq_false',Bool.and_eq_true,Bool.or_eq_true]at h)<;>(try simp[ae,af,ab,ad,aa, *,hu.idx,hlt,hg,Clear.enc]))
  ·simp[IntWalk.i64_in ((k:Int)+1) (by omega)]
   exact ih (k+1) _ _ _ hs' (by omega) (by simp) (by simp(maxDischargeDepth:=12) [an,ai,Fr.nil,au,ae,af,ab,ad,al,ah,aa, *]) (by simp(maxDischargeDepth:=12) [an,ai,Fr.nil,au,ae,af,ab,ad,al,ah,aa, *]) (fun y H' e=>hQ y H' (by simp[*,Bool.and_assoc]))
  ·simp[IntWalk.i64_in ((k:Int)+1) (by omega)]
   exact ih (k+1) _ _ _ hs' (by omega) (by simp) (by simp(maxDischargeDepth:=12) [an,ai,Fr.nil,au,ae,af,ab,ad,al,ah,aa, *]) (by simp(maxDischargeDepth:=12) [an,ai,Fr.nil,au,ae,af,ab,ad,al,ah,aa, *]) (fun y H' e=>hQ y H' (by simp[*,Bool.and_assoc]))
@[simp] theorem mC:limf env 17 [.agg [xu,xq,aI gr]]=some (aI (bad (mayB us qs gr))):=by
 refine aH (fn:=Try.f17) (c:=ef) rfl (by kernel_rfl) (by kernel_rfl) (by kernel_rfl) (by kernel_rfl) ?_;refine my _ _ _ fun g=>?_
 simp[ae,af,ab,ad,aa, *,j6,hu.r,hq.r]
 refine Ar (gr:=gr) hu hq hql hul us 0 _ _ _ rfl (by omega) rfl ?_ ?_ ?_
 ·simp(maxDischargeDepth:=12) [an,ai,Fr.nil,au,ae,af,ab,ad,al,ah,aa, *]
 ·simp(maxDischargeDepth:=12) [an,ai,Fr.nil,au,ae,af,ab,ad,al,ah,aa, *]
 rintro y H' rfl
 simp only[yh (f:=17) (by rfl),cA,zr,Option.some.injEq]
 rw[mayB,ndec,ndec]
 have e (n:Nat):decide ((n:Int)≤8)=decide (n≤8):=by congr 1;exact propext (by omega)
 simp only[e,Bool.and_assoc]
end
end Go.Proofs.Ytgooemdlilfkmaa
