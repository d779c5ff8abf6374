/-
  Labels: what the functions answer. No statement of a seat is proved here.
-/
import Derived.Test.YtdbiffjdomokfaaGreatAuVc7
import Derived.Test.YtdbiffjdomokfaaGreatAuVc4
import Derived.Test.YtdbiffjdomokfaaGreatAuVc1
import Derived.Test.YtdbiffjdomokfaaGreatMLePol
import Derived.Test.YtdbiffjdomokfaaGreatAbsRules
set_option linter.unusedVariables false
set_option linter.unusedSimpArgs false
set_option linter.unusedSectionVars false
set_option linter.unnecessarySimpa false
set_option maxRecDepth 100000
namespace Go.Proofs.YtdbiffjdomokfaaGreat
open Go.Ab
attribute [local simp] bD bq cZ ld
@[simp] theorem Kz(a:UInt8)(b:UInt32):bj env 33 [.agg [a8 a,aF b]]=some (aI (wW a)):=by
 refine aL (fn:=Tryz.f33) (c:=qh) rfl (by kernel_rfl) (by kernel_rfl) (by kernel_rfl) (by kernel_rfl) ?_;refine uj _ _ _ fun g=>?_
 simp[ah,ai,ae,af,ad, *,qu]
 repeat' ((first | refine k5 (fun h=>?_) (fun h=>?_) | refine ku (fun h=>?_) (fun h=>?_) | refine ky (fun h=>?_) (fun h=>?_) | refine kq (fun h=>?_) (fun h=>?_) | refine kr (fun h=>?_) (fun h=>?_))<;>(try simp only[decide_eq_true_eq,decide_eq_false_iff_not,Bool.not_eq_true',Bool.not_eq_false',Bool.and_eq_true,Bool.or_eq_true]at h)<;>(try simp[ah,ai,ae,af,ad, *,wW]))
@[simp] theorem Bw(a:UInt8)(b:UInt32)(c:UInt8)(d:UInt32):bj env 20 [.agg [a8 a,aF b],.agg [a8 c,aF d]]=some (aB (SK a b c d)):=by
 refine aL (fn:=Tryz.f20) (c:=tx) rfl (by kernel_rfl) (by kernel_rfl) (by kernel_rfl) (by kernel_rfl) ?_;refine xz _ _ _ _ fun g=>?_
 simp[ah,ai,ae,af,ad, *,tE]
 repeat' ((first | refine k5 (fun h=>?_) (fun h=>?_) | refine ku (fun h=>?_) (fun h=>?_) | refine ky (fun h=>?_) (fun h=>?_) | refine kq (fun h=>?_) (fun h=>?_) | refine kr (fun h=>?_) (fun h=>?_))<;>(try simp only[decide_eq_true_eq,decide_eq_false_iff_not,Bool.not_eq_true',Bool.not_eq_false',Bool.and_eq_true,Bool.or_eq_true]at h)<;>(try simp[ah,ai,ae,af,ad, *,SK]))
@[simp] theorem YH(a:UInt8)(b:UInt32)(c:UInt8)(d:UInt32):bj env 67 [.agg [a8 a,aF b],.agg [a8 c,aF d]]=some (aB (Jj a b c d)):=by
 refine aL (fn:=Tryz.f67) (c:=vg) rfl (by kernel_rfl) (by kernel_rfl) (by kernel_rfl) (by kernel_rfl) ?_;refine Be _ _ _ _ fun g=>?_
 simp[ah,ai,ae,af,ad, *,vq,kz,mf,gb]
 repeat' ((first | refine k5 (fun h=>?_) (fun h=>?_) | refine ku (fun h=>?_) (fun h=>?_) | refine ky (fun h=>?_) (fun h=>?_) | refine kq (fun h=>?_) (fun h=>?_) | refine kr (fun h=>?_) (fun h=>?_))<;>(try simp only[decide_eq_true_eq,decide_eq_false_iff_not,Bool.not_eq_true',Bool.not_eq_false',Bool.and_eq_true,Bool.or_eq_true]at h)<;>(try simp[ah,ai,ae,af,ad, *,Jj,kz,mf,gb]))
@[simp] theorem Pu:bj env 91 []=some (.agg [a8 0,aF 0]):=by
 refine aL (fn:=Tryz.f91) (c:=qf) rfl (by kernel_rfl) (by kernel_rfl) (by kernel_rfl) (by kernel_rfl) ?_;refine ui _ _ fun g=>?_
 simp[ah,ai,ae,af,ad, *,qq,kz]
@[simp] theorem ZH(n m:Int):bj env 65 [aI n,aI m]=some (aB (decide (0≤n)&&decide (n≤m))):=by
 refine aL (fn:=Tryz.f65) (c:=vc) rfl (by kernel_rfl) (by kernel_rfl) (by kernel_rfl) (by kernel_rfl) ?_;refine Bb _ _ _ _ fun g=>?_
 simp[ah,ai,ae,af,ad, *,vm]
 repeat' ((first | refine k5 (fun h=>?_) (fun h=>?_) | refine ku (fun h=>?_) (fun h=>?_) | refine ky (fun h=>?_) (fun h=>?_) | refine kq (fun h=>?_) (fun h=>?_) | refine kr (fun h=>?_) (fun h=>?_))<;>(try simp only[decide_eq_true_eq,decide_eq_false_iff_not,Bool.not_eq_true',Bool.not_eq_false',Bool.and_eq_true,Bool.or_eq_true]at h)<;>(try simp[ah,ai,ae,af,ad, *]))
@[simp] theorem YF(v:UInt8)(c:UInt32)(ok:Bool):bj env 66 [.agg [a8 v,aF c,aB ok]]=some (aB (Fm v c ok)):=by
 refine aL (fn:=Tryz.f66) (c:=tT) rfl (by kernel_rfl) (by kernel_rfl) (by kernel_rfl) (by kernel_rfl) ?_;refine As _ _ _ fun g=>?_
 simp[ah,ai,ae,af,ad, *,tY,kz,mf,gb]
 repeat' ((first | refine k5 (fun h=>?_) (fun h=>?_) | refine ku (fun h=>?_) (fun h=>?_) | refine ky (fun h=>?_) (fun h=>?_) | refine kq (fun h=>?_) (fun h=>?_) | refine kr (fun h=>?_) (fun h=>?_))<;>(try simp only[decide_eq_true_eq,decide_eq_false_iff_not,Bool.not_eq_true',Bool.not_eq_false',Bool.and_eq_true,Bool.or_eq_true]at h)<;>(try simp[ah,ai,ae,af,ad, *,Fm,kz,mf,gb]))
end Go.Proofs.YtdbiffjdomokfaaGreat
namespace Go.Proofs.YtdbiffjdomokfaaGreat
open Go.Ab
attribute [local simp] bD bq cZ ld
def qV(b:Bool):List Bool→Nat→Int
 | [],_ => -1
 | x :: l,k=>if b=x then k else qV b l (k+1)
theorem P8(b:Bool) : ∀(l:List Bool)(k:Nat),(0≤qV b l k↔l.contains b=true):=by
 intro l
 induction l with
 | nil=>intro k;simp[qV]
 | cons x l ih =>
  intro k
  unfold qV
  split
  ·rename_i e;subst e;simp
  ·rename_i e
   rw[ih (k+1)]
   have:(b == x)=false:=by cases b<;>cases x<;>simp_all
   simp only[List.contains_cons,this,Bool.false_or]
section
variable{x0:AV}{l:List Bool}(hx:Sl 1 (Xs l) x0)(hl:l.length<4611686018427387904)
include hx hl
theorem IQ{b:Bool}{Q:AV→ab→Prop} : ∀(s:List Bool)(k:Nat)(i:Int)(H:ab),l.drop k=s→k≤l.length→i=k→(∀y H',y=aI (qV b s k)→Q y H') →
 bP env Tryz.f110 0 eJ [(8,aI i),(0,x0),(1,aB b),(7,aI l.length)] H Q:=by
 intro s
 induction s with
 | nil =>
  rintro k i H hs hk rfl h
  obtain rfl:=drop_nil hs hk
  refine jE _ _ _ _ _ _ fun g=>?_
  simp[ah,ai,ae,af,ad, *,gj]
  exact h _ H rfl
 | cons a s ih =>
  rintro k i H hs hk rfl h
  obtain⟨hlt,hg,hs',hg'⟩:=drop_cons hs
  refine jE _ _ _ _ _ _ fun g=>?_
  simp[ah,ai,ae,af,ad, *,gj,hx.idx,hlt,hg,IntWalk.i64_in ((k:Int)+1) (by omega)]
  refine Tx (fun e=>?_) (fun e=>?_)
  ·exact h _ _ (by simp[qV,e])
  ·simp[IntWalk.i64_in ((k:Int)+1) (by omega)]
   exact ih (k+1) _ _ hs' (by omega) (by omega) (fun y H' ey=>h y H' (by simp[qV,e,ey]))
@[simp] theorem Pv(b:Bool):bj env 110 [x0,aB b]=some (aI (qV b l 0)):=by
 refine aL (fn:=Tryz.f110) (c:=gR) rfl (by kernel_rfl) (by kernel_rfl) (by kernel_rfl) (by kernel_rfl) ?_;refine pg _ _ _ _ fun g=>?_
 simp[ah,ai,ae,af,ad, *,kM,hx.len]
 exact IQ hx hl l 0 _ _ rfl (by omega) (by simp) (fun y H' e=>by simp[e])
@[simp] theorem Im(b:Bool):bj env 90 [x0,aB b]=some (aB (l.contains b)):=by
 refine aL (fn:=Tryz.f90) (c:=jA) rfl (by kernel_rfl) (by kernel_rfl) (by kernel_rfl) (by kernel_rfl) ?_;refine oa _ _ _ _ fun g=>?_
 have:=P8 b l 0
 simp[ah,ai,ae,af,ad, *,jC,hx.r,Pv hx hl,this]
@[simp] theorem Mm:bj env 64 [x0]=some (aB (l.all id)):=by
 refine aL (fn:=Tryz.f64) (c:=wy) rfl (by kernel_rfl) (by kernel_rfl) (by kernel_rfl) (by kernel_rfl) ?_;refine CS _ _ _ fun g=>?_
 have:(!l.contains false)=l.all id:=by
  clear hx hl
  induction l with
  | nil=>rfl
  | cons b l ih=>cases b<;>simp_all
 simp[ah,ai,ae,af,ad, *,wH,hx.r,Im hx hl,←this]
end
@[simp] theorem ZJ(a b c:Bool):bj env 64 [.cw 1 [aB a,aB b,aB c] (some 3)]=some (aB (a&&(b&&c))):=by
 have:=Mm (l:=[a,b,c]) (x0 := .cw 1 [aB a,aB b,aB c] (some 3)) (.inr ⟨_,rfl,by simp⟩) (by simp);simpa using this
@[simp] theorem ZI(a b c d e:Bool):bj env 64 [.cw 1 [aB a,aB b,aB c,aB d,aB e] (some 5)]=some (aB (a&&(b&&(c&&(d&&e))))):=by
 have:=Mm (l:=[a,b,c,d,e]) (x0 := .cw 1 [aB a,aB b,aB c,aB d,aB e] (some 5)) (.inr ⟨_,rfl,by simp⟩) (by simp);simpa using this
theorem HC{x9:AV}{Q:AV→ab→Prop}{l:List bz}(hx:Sl 5 (ff l) x9)(hl:l.length<4611686018427387904) : ∀(s:List bz)(k:Nat)(i n:Int)(H:ab),l.drop k=s→k≤l.length→i=k →
 (∀y H',y=aI (sF n s)→Q y H') →
 bP env Tryz.f68 0 kn [(11,aI i),(3,aI n),(9,x9),(10,aI l.length)] H Q:=by
 intro s
 induction s with
 | nil =>
  rintro k i n H hs hk rfl h
  obtain rfl:=drop_nil hs hk
  refine pP _ _ _ _ _ _ fun g=>?_
  simp[ah,ai,ae,af,ad, *,mT]
  exact h _ H rfl
 | cons a s ih =>
  rintro k i n H hs hk rfl h
  obtain⟨hlt,hg,hs',hg'⟩:=drop_cons hs
  refine pP _ _ _ _ _ _ fun g=>?_
  simp[ah,ai,ae,af,ad, *,mT,hx.idx,hlt,hg,bz.enc,IntWalk.i64_in ((k:Int)+1) (by omega)]
  exact ih (k+1) _ _ _ hs' (by omega) (by omega) h
section
variable{xu xq:AV}{us:List Clear}{qs:List bz}{gr:Int}(hu:Sl 3 (eZ us) xu)(hq:Sl 5 (ff qs) xq)(hql:qs.length<4611686018427387904)(hul:us.length<4611686018427387904)
include hu hq hql
@[simp] theorem Kr:bj env 68 [.agg [xu,xq,aI gr]]=some (aI (sF gr qs)):=by
 refine aL (fn:=Tryz.f68) (c:=oH) rfl (by kernel_rfl) (by kernel_rfl) (by kernel_rfl) (by kernel_rfl) ?_;refine ze _ _ _ fun g=>?_
 simp[ah,ai,ae,af,ad, *,sM,hu.r,hq.r]
 exact HC hq hql qs 0 _ _ _ rfl (by omega) rfl (fun y H' e=>by simp[e])
theorem Qw{x85:AV}{r1:Ref}{may:Bool}{Q:AV→ab→Prop}{l:List bz}(hx:Sl 5 (ff l) x85)(hl:l.length<4611686018427387904) : ∀(s:List bz)(k:Nat)(i n:Int)(H:ab),l.drop k=s→k≤l.length→i=k →
 Fr H→H.get r1=some ⟨3,[.agg [xu,xq,aI gr]],false,false⟩ →
 (∀y H',y=aI (bad (may&&(!decide (2048<sF gr qs) && !decide (8192<cellsOf n s))))→Q y H') →
 bP env Tryz.f41 0 ko [(87,aI i),(8,aI n),(85,x85),(1,.ptr r1 0 0),(3,aB may),(86,aI l.length)] H Q:=by
 intro s
 induction s with
 | nil =>
  rintro k i n H hs hk rfl hF hB h
  obtain rfl:=drop_nil hs hk
  refine pQ _ _ _ _ _ _ _ _ fun g=>?_
  have hb:=Kr (gr:=gr) hu hq hql
  simp[ah,ai,ae,af,ad, *,mU]
  repeat' ((first | refine k5 (fun h=>?_) (fun h=>?_) | refine ku (fun h=>?_) (fun h=>?_) | refine ky (fun h=>?_) (fun h=>?_) | refine kq (fun h=>?_) (fun h=>?_) | refine kr (fun h=>?_) (fun h=>?_))<;>(try simp only[decide_eq_true_eq,decide_eq_false_iff_not,Bool.not_eq_true',Bool.not_eq_false',Bool.and_eq_true,Bool.or_eq_true]at h)<;>(try simp[ah,ai,ae,af,ad, *,hu.r,hq.r,hb,bad,cellsOf]))
 | cons a s ih =>
  rintro k i n H hs hk rfl hF hB h
  obtain⟨hlt,hg,hs',hg'⟩:=drop_cons hs
  refine pQ _ _ _ _ _ _ _ _ fun g=>?_
  simp[ah,ai,ae,af,ad, *,mU,hx.idx,hlt,hg,bz.enc,IntWalk.i64_in ((k:Int)+1) (by omega)]
  exact ih (k+1) _ _ _ hs' (by omega) (by omega) (by simp(maxDischargeDepth:=12) [aq,an,Fr.nil,aD,ah,ai,ae,af,ar,ao,ad, *]) (by simp(maxDischargeDepth:=12) [aq,an,Fr.nil,aD,ah,ai,ae,af,ar,ao,ad, *]) h
def OI(may:Bool)(p:Option bz):List bz→Bool
 | []=>may
 | q :: s=>OI (may&&(PH q&&(match p with | none=>true | some p=>EN p q))) (some q) s
theorem Tr{r1:Ref}{Q:AV→ab→Prop} : ∀(s:List bz)(k:Nat)(i:Int)(may:Bool)(H:ab),qs.drop k=s→k≤qs.length→i=k →
 Fr H→H.get r1=some ⟨3,[.agg [xu,xq,aI gr]],false,false⟩ →
 (∀y H',y=aI (bad (OI may (if k=0 then none else qs[k - 1]?) s&&(!decide (2048<sF gr qs) && !decide (8192<cellsOf 0 (qs.take 8)))))→Q y H') →
 bP env Tryz.f41 0 kW [(40,aI i),(1,.ptr r1 0 0),(3,aB may),(38,xq),(39,aI qs.length)] H Q:=by
 intro s
 induction s with
 | nil =>
  rintro k i may H hs hk rfl hF hB h
  obtain rfl:=drop_nil hs hk
  refine qF _ _ _ _ _ _ _ fun g=>?_
  have hmin:(if (8:Int)<qs.length then (8:Int) else qs.length)=((min 8 qs.length:Nat):Int):=by split<;>omega
  have hs:=FX (P:=env.P) (t:=27) (z:=5) (by simp) H.get hq (n:=((min 8 qs.length:Nat):Int)) (by omega) (by simp;omega)
  obtain⟨y,ey,sy⟩:=hs
  have ht:(ff qs).take (min 8 qs.length)=ff (qs.take 8):=by
   rw[←List.map_take];congr 1
   rcases Nat.le_total 8 qs.length with h | h
   ·rw[Nat.min_eq_left h]
   ·rw[Nat.min_eq_right h,List.take_of_length_le (Nat.le_refl _),List.take_of_length_le h]
  rw[Int.toNat_natCast,ht]at sy
  simp[ah,ai,ae,af,ad, *,gK,hB,hq.len,hmin,ey,sy.len]
  have hl8:(qs.take 8).length=min 8 qs.length:=List.length_take
  rw[←hl8]
  exact Qw hu hq hql sy (by omega) _ 0 0 0 H rfl (by omega) rfl hF hB (fun y H' e=>h y H' (by simpa [OI] using e))
 | cons a s ih =>
  rintro k i may H hs hk rfl hF hB h
  obtain⟨hlt,hg,hs',hg'⟩:=drop_cons hs
  have hi:=ih (k+1)
  refine qF _ _ _ _ _ _ _ fun g=>?_
  cases k with
  | zero =>
   have e1:IntKind.i64.wrap 1=1:=rfl
   cases may
   ·simp[ah,ai,ae,af,ad, *,gK,hq.idx,hlt,hg,bz.enc,e1]
    exact hi _ _ _ hs' (by omega) rfl (by simp(maxDischargeDepth:=12) [aq,an,Fr.nil,aD,ah,ai,ae,af,ar,ao,ad, *]) (by simp(maxDischargeDepth:=12) [aq,an,Fr.nil,aD,ah,ai,ae,af,ar,ao,ad, *]) (fun y H' e=>h y H' (by simpa [OI,hg'] using e))
   ·simp[ah,ai,ae,af,ad, *,gK,hq.idx,hlt,hg,bz.enc,e1]
    exact hi _ _ _ hs' (by omega) rfl (by simp(maxDischargeDepth:=12) [aq,an,Fr.nil,aD,ah,ai,ae,af,ar,ao,ad, *]) (by simp(maxDischargeDepth:=12) [aq,an,Fr.nil,aD,ah,ai,ae,af,ar,ao,ad, *]) (fun y H' e=>h y H' (by simpa [OI,hg',PH] using e))
  | succ k =>
   have e1:IntKind.i64.wrap ((k:Int)+1+1)=(k:Int)+1+1:=IntWalk.i64_in _ (by omega)
   have e2:IntKind.i64.wrap (k:Int)=k:=IntWalk.i64_in _ (by omega)
   have e3 : ¬(k:Int)<0:=by omega
   have e4 : ¬(k:Int)+1=0:=by omega
   have e5:k<qs.length:=by omega
   have e6:(k:Int)+1<qs.length:=by omega
   have e7:(0:Int)≤k+1:=by omega
   cases may
   ·simp[ah,ai,ae,af,ad, *,gK,hq.idx,hlt,hg,bz.enc,e1,e2,e3,e4,e5,e6,e7]
    exact hi _ _ _ hs' (by omega) (by simp) (by simp(maxDischargeDepth:=12) [aq,an,Fr.nil,aD,ah,ai,ae,af,ar,ao,ad, *]) (by simp(maxDischargeDepth:=12) [aq,an,Fr.nil,aD,ah,ai,ae,af,ar,ao,ad, *]) (fun y H' e=>h y H' (by simpa [OI,hg'] using e))
   ·simp[ah,ai,ae,af,ad, *,gK,hq.idx,hlt,hg,bz.enc,e1,e2,e3,e4,e5,e6,e7,hB,ah hF (q:=r1)]
    exact hi _ _ _ hs' (by omega) (by simp) (by simp(maxDischargeDepth:=12) [aq,an,Fr.nil,aD,ah,ai,ae,af,ar,ao,ad, *]) (by simp(maxDischargeDepth:=12) [aq,an,Fr.nil,aD,ah,ai,ae,af,ar,ao,ad, *]) (fun y H' e=>h y H' (by simpa [OI,hg',PH,EN,List.getElem?_eq_getElem e5,Bool.and_assoc] using e))
omit hu hq hql in
theorem Qa : ∀(s:List bz)(may:Bool)(p:Option bz),OI may p s=(may&&KL p s):=by
 intro s
 induction s with
 | nil=>intro may p;simp[OI,KL]
 | cons q s ih=>intro may p;cases p<;>simp[OI,KL,ih,Bool.and_assoc]
include hul
theorem Ts{r1:Ref}{Q:AV→ab→Prop} : ∀(s:List Clear)(k:Nat)(i:Int)(may:Bool)(H:ab),us.drop k=s→k≤us.length→i=k →
 Fr H→H.get r1=some ⟨3,[.agg [xu,xq,aI gr]],false,false⟩ →
 (∀y H',y=aI (bad (((may&&s.all fun c=>Fm c.lv c.cats c.ok)&&KL none qs)&&(!decide (2048<sF gr qs) && !decide (8192<cellsOf 0 (qs.take 8)))))→Q y H') →
 bP env Tryz.f41 0 kX [(27,aI i),(3,aB may),(25,xu),(1,.ptr r1 0 0),(26,aI us.length)] H Q:=by
 intro s
 induction s with
 | nil =>
  rintro k i may H hs hk rfl hF hB hQ
  obtain rfl:=drop_nil hs hk
  refine qG _ _ _ _ _ _ _ fun g=>?_
  simp[ah,ai,ae,af,ad, *,nV,hB,hq.len]
  exact Tr hu hq hql qs 0 0 may H rfl (by omega) rfl hF hB (fun y H' e=>hQ y H' (by simpa [Qa] using e))
 | cons a s ih =>
  rintro k i may H hs hk rfl hF hB hQ
  obtain⟨hlt,hg,hs',hg'⟩:=drop_cons hs
  refine qG _ _ _ _ _ _ _ fun g=>?_
  simp[ah,ai,ae,af,ad, *,nV,hu.idx,hlt,hg,Clear.enc]
  repeat' ((first | refine k5 (fun h=>?_) (fun h=>?_) | refine ku (fun h=>?_) (fun h=>?_) | refine ky (fun h=>?_) (fun h=>?_) | refine kq (fun h=>?_) (fun h=>?_) | refine kr (fun h=>?_) (fun h=>?_))<;>(try simp only[decide_eq_true_eq,decide_eq_false_iff_not,Bool.not_eq_true',Bool.not_eq_false',Bool.and_eq_true,Bool.or_eq_true]at h)<;>(try simp[ah,ai,ae,af,ad, *,hu.idx,hlt,hg,Clear.enc]))
  ·simp[IntWalk.i64_in ((k:Int)+1) (by omega)]
   exact ih (k+1) _ _ _ hs' (by omega) (by simp) (by simp(maxDischargeDepth:=12) [aq,an,Fr.nil,aD,ah,ai,ae,af,ar,ao,ad, *]) (by simp(maxDischargeDepth:=12) [aq,an,Fr.nil,aD,ah,ai,ae,af,ar,ao,ad, *]) (fun y H' e=>hQ y H' (by simp[*,Bool.and_assoc]))
  ·simp[IntWalk.i64_in ((k:Int)+1) (by omega)]
   exact ih (k+1) _ _ _ hs' (by omega) (by simp) (by simp(maxDischargeDepth:=12) [aq,an,Fr.nil,aD,ah,ai,ae,af,ar,ao,ad, *]) (by simp(maxDischargeDepth:=12) [aq,an,Fr.nil,aD,ah,ai,ae,af,ar,ao,ad, *]) (fun y H' e=>hQ y H' (by simp[*,Bool.and_assoc]))
@[simp] theorem xN:bj env 41 [.agg [xu,xq,aI gr]]=some (aI (bad (EO us qs gr))):=by
 refine aL (fn:=Tryz.f41) (c:=kJ) rfl (by kernel_rfl) (by kernel_rfl) (by kernel_rfl) (by kernel_rfl) ?_;refine Av _ _ _ fun g=>?_
 simp[ah,ai,ae,af,ad, *,ud,hu.r,hq.r]
 refine Ts (gr:=gr) hu hq hql hul us 0 _ _ _ rfl (by omega) rfl ?_ ?_ ?_
 ·simp(maxDischargeDepth:=12) [aq,an,Fr.nil,aD,ah,ai,ae,af,ar,ao,ad, *]
 ·simp(maxDischargeDepth:=12) [aq,an,Fr.nil,aD,ah,ai,ae,af,ar,ao,ad, *]
 rintro y H' rfl
 simp only[P9 (f:=17) (by rfl),bD,RR,Option.some.injEq]
 rw[EO,WI,WI]
 have e (n:Nat):decide ((n:Int)≤8)=decide (n≤8):=by congr 1;exact propext (by omega)
 simp only[e,Bool.and_assoc]
@[simp] theorem F3(a:UInt8)(b:UInt32):bj env 111 [.agg [xu,xq,aI gr],.agg [a8 a,aF b]]=some (aI (wb us qs gr a)):=by
 refine aL (fn:=Tryz.f111) (c:=tU) rfl (by kernel_rfl) (by kernel_rfl) (by kernel_rfl) (by kernel_rfl) ?_;refine At _ _ _ _ fun g=>?_
 simp[ah,ai,ae,af,ad, *,tZ,hu.r,hq.r,xN hu hq hql hul,wb]
end
end Go.Proofs.YtdbiffjdomokfaaGreat
