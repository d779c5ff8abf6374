/-
  Labels: what the functions answer. No statement of a seat is proved here.
-/
import Derived.Test.YtmkmimgokagimaaGreatLeVc7
import Derived.Test.YtmkmimgokagimaaGreatLeVc4
import Derived.Test.YtmkmimgokagimaaGreatLeVc1
import Derived.Test.YtmkmimgokagimaaGreatMLePol
import Derived.Test.YtmkmimgokagimaaGreatAbsRules
set_option linter.unusedVariables false
set_option linter.unusedSimpArgs false
set_option linter.unusedSectionVars false
set_option linter.unnecessarySimpa false
set_option maxRecDepth 100000
namespace Go.Proofs.YtmkmimgokagimaaGreat
open Go.Ab
attribute [local simp] bJ bw cL kN
@[simp] theorem Oh(a:UInt8)(b:UInt32):bj env 76 [.agg [a8 a,aF b]]=some (aI (Ac a)):=by
 refine aG (fn:=Tryz.f76) (c:=sj) rfl (by kernel_rfl) (by kernel_rfl) (by kernel_rfl) (by kernel_rfl) ?_;refine xE _ _ _ fun g=>?_
 simp[ah,ai,ae,af,ab, *,sJ]
 repeat' ((first | refine mZ (fun h=>?_) (fun h=>?_) | refine lz (fun h=>?_) (fun h=>?_) | refine lA (fun h=>?_) (fun h=>?_) | refine lx (fun h=>?_) (fun h=>?_) | refine ly (fun h=>?_) (fun h=>?_))<;>(try simp only[decide_eq_true_eq,decide_eq_false_iff_not,Bool.not_eq_true',Bool.not_eq_false',Bool.and_eq_true,Bool.or_eq_true]at h)<;>(try simp[ah,ai,ae,af,ab, *,Ac]))
@[simp] theorem EU(a:UInt8)(b:UInt32)(c:UInt8)(d:UInt32):bj env 47 [.agg [a8 a,aF b],.agg [a8 c,aF d]]=some (aB (Wr a b c d)):=by
 refine aG (fn:=Tryz.f47) (c:=wG) rfl (by kernel_rfl) (by kernel_rfl) (by kernel_rfl) (by kernel_rfl) ?_;refine AB _ _ _ _ fun g=>?_
 simp[ah,ai,ae,af,ab, *,wP]
 repeat' ((first | refine mZ (fun h=>?_) (fun h=>?_) | refine lz (fun h=>?_) (fun h=>?_) | refine lA (fun h=>?_) (fun h=>?_) | refine lx (fun h=>?_) (fun h=>?_) | refine ly (fun h=>?_) (fun h=>?_))<;>(try simp only[decide_eq_true_eq,decide_eq_false_iff_not,Bool.not_eq_true',Bool.not_eq_false',Bool.and_eq_true,Bool.or_eq_true]at h)<;>(try simp[ah,ai,ae,af,ab, *,Wr]))
@[simp] theorem acE(a:UInt8)(b:UInt32)(c:UInt8)(d:UInt32):bj env 169 [.agg [a8 a,aF b],.agg [a8 c,aF d]]=some (aB (MR a b c d)):=by
 refine aG (fn:=Tryz.f169) (c:=yz) rfl (by kernel_rfl) (by kernel_rfl) (by kernel_rfl) (by kernel_rfl) ?_;refine EC _ _ _ _ fun g=>?_
 simp[ah,ai,ae,af,ab, *,yJ,lB,ke,eE]
 repeat' ((first | refine mZ (fun h=>?_) (fun h=>?_) | refine lz (fun h=>?_) (fun h=>?_) | refine lA (fun h=>?_) (fun h=>?_) | refine lx (fun h=>?_) (fun h=>?_) | refine ly (fun h=>?_) (fun h=>?_))<;>(try simp only[decide_eq_true_eq,decide_eq_false_iff_not,Bool.not_eq_true',Bool.not_eq_false',Bool.and_eq_true,Bool.or_eq_true]at h)<;>(try simp[ah,ai,ae,af,ab, *,MR,lB,ke,eE]))
@[simp] theorem SW:bj env 185 []=some (.agg [a8 0,aF 0]):=by
 refine aG (fn:=Tryz.f185) (c:=si) rfl (by kernel_rfl) (by kernel_rfl) (by kernel_rfl) (by kernel_rfl) ?_;refine xD _ _ fun g=>?_
 simp[ah,ai,ae,af,ab, *,sI,lB]
@[simp] theorem adW(n m:Int):bj env 167 [aI n,aI m]=some (aB (decide (0≤n)&&decide (n≤m))):=by
 refine aG (fn:=Tryz.f167) (c:=yn) rfl (by kernel_rfl) (by kernel_rfl) (by kernel_rfl) (by kernel_rfl) ?_;refine Ex _ _ _ _ fun g=>?_
 simp[ah,ai,ae,af,ab, *,yE]
 repeat' ((first | refine mZ (fun h=>?_) (fun h=>?_) | refine lz (fun h=>?_) (fun h=>?_) | refine lA (fun h=>?_) (fun h=>?_) | refine lx (fun h=>?_) (fun h=>?_) | refine ly (fun h=>?_) (fun h=>?_))<;>(try simp only[decide_eq_true_eq,decide_eq_false_iff_not,Bool.not_eq_true',Bool.not_eq_false',Bool.and_eq_true,Bool.or_eq_true]at h)<;>(try simp[ah,ai,ae,af,ab, *]))
@[simp] theorem acC(v:UInt8)(c:UInt32)(ok:Bool):bj env 168 [.agg [a8 v,aF c,aB ok]]=some (aB (I7 v c ok)):=by
 refine aG (fn:=Tryz.f168) (c:=wX) rfl (by kernel_rfl) (by kernel_rfl) (by kernel_rfl) (by kernel_rfl) ?_;refine Dw _ _ _ fun g=>?_
 simp[ah,ai,ae,af,ab, *,xe,lB,ke,eE]
 repeat' ((first | refine mZ (fun h=>?_) (fun h=>?_) | refine lz (fun h=>?_) (fun h=>?_) | refine lA (fun h=>?_) (fun h=>?_) | refine lx (fun h=>?_) (fun h=>?_) | refine ly (fun h=>?_) (fun h=>?_))<;>(try simp only[decide_eq_true_eq,decide_eq_false_iff_not,Bool.not_eq_true',Bool.not_eq_false',Bool.and_eq_true,Bool.or_eq_true]at h)<;>(try simp[ah,ai,ae,af,ab, *,I7,lB,ke,eE]))
end Go.Proofs.YtmkmimgokagimaaGreat
namespace Go.Proofs.YtmkmimgokagimaaGreat
open Go.Ab
attribute [local simp] bJ bw cL kN
def tH(b:Bool):List Bool→Nat→Int
 | [],_ => -1
 | x :: l,k=>if b=x then k else tH b l (k+1)
theorem TA(b:Bool) : ∀(l:List Bool)(k:Nat),(0≤tH b l k↔l.contains b=true):=by
 intro l
 induction l with
 | nil=>intro k;simp[tH]
 | cons x l ih =>
  intro k
  unfold tH
  split
  ·rename_i e;subst e;simp
  ·rename_i e
   rw[ih (k+1)]
   have:(b == x)=false:=by cases b<;>cases x<;>simp_all
   simp only[List.contains_cons,this,Bool.false_or]
section
variable{x0:AV}{l:List Bool}(hx:Sl 1 (abk l) x0)(hl:l.length<4611686018427387904)
include hx hl
theorem Ml{b:Bool}{Q:AV→ad→Prop} : ∀(s:List Bool)(k:Nat)(i:Int)(H:ad),l.drop k=s→k≤l.length→i=k→(∀y H',y=aI (tH b s k)→Q y H') →
 b7 env Tryz.f227 0 eV [(8,aI i),(0,x0),(1,aB b),(7,aI l.length)] H Q:=by
 intro s
 induction s with
 | nil =>
  rintro k i H hs hk rfl h
  obtain rfl:=drop_nil hs hk
  refine kj _ _ _ _ _ _ fun g=>?_
  simp[ah,ai,ae,af,ab, *,gx]
  exact h _ H rfl
 | cons a s ih =>
  rintro k i H hs hk rfl h
  obtain⟨hlt,hg,hs',hg'⟩:=drop_cons hs
  refine kj _ _ _ _ _ _ fun g=>?_
  simp[ah,ai,ae,af,ab, *,gx,hx.idx,hlt,hg,IntWalk.i64_in ((k:Int)+1) (by omega)]
  refine Xd (fun e=>?_) (fun e=>?_)
  ·exact h _ _ (by simp[tH,e])
  ·simp[IntWalk.i64_in ((k:Int)+1) (by omega)]
   exact ih (k+1) _ _ hs' (by omega) (by omega) (fun y H' ey=>h y H' (by simp[tH,e,ey]))
@[simp] theorem SX(b:Bool):bj env 227 [x0,aB b]=some (aI (tH b l 0)):=by
 refine aG (fn:=Tryz.f227) (c:=im) rfl (by kernel_rfl) (by kernel_rfl) (by kernel_rfl) (by kernel_rfl) ?_;refine qK _ _ _ _ fun g=>?_
 simp[ah,ai,ae,af,ab, *,lM,hx.len]
 exact Ml hx hl l 0 _ _ rfl (by omega) (by simp) (fun y H' e=>by simp[e])
@[simp] theorem LS(b:Bool):bj env 212 [x0,aB b]=some (aB (l.contains b)):=by
 refine aG (fn:=Tryz.f212) (c:=jV) rfl (by kernel_rfl) (by kernel_rfl) (by kernel_rfl) (by kernel_rfl) ?_;refine pD _ _ _ _ fun g=>?_
 have:=TA b l 0
 simp[ah,ai,ae,af,ab, *,jX,hx.r,SX hx hl,this]
@[simp] theorem Qg:bj env 166 [x0]=some (aB (l.all id)):=by
 refine aG (fn:=Tryz.f166) (c:=zD) rfl (by kernel_rfl) (by kernel_rfl) (by kernel_rfl) (by kernel_rfl) ?_;refine Gs _ _ _ fun g=>?_
 have:(!l.contains false)=l.all id:=by
  clear hx hl
  induction l with
  | nil=>rfl
  | cons b l ih=>cases b<;>simp_all
 simp[ah,ai,ae,af,ab, *,zN,hx.r,LS hx hl,←this]
end
@[simp] theorem adY(a b c:Bool):bj env 166 [.ck 1 [aB a,aB b,aB c] (some 3)]=some (aB (a&&(b&&c))):=by
 have:=Qg (l:=[a,b,c]) (x0 := .ck 1 [aB a,aB b,aB c] (some 3)) (.inr ⟨_,rfl,by simp⟩) (by simp);simpa using this
@[simp] theorem adX(a b c d e:Bool):bj env 166 [.ck 1 [aB a,aB b,aB c,aB d,aB e] (some 5)]=some (aB (a&&(b&&(c&&(d&&e))))):=by
 have:=Qg (l:=[a,b,c,d,e]) (x0 := .ck 1 [aB a,aB b,aB c,aB d,aB e] (some 5)) (.inr ⟨_,rfl,by simp⟩) (by simp);simpa using this
theorem Lf{x9:AV}{Q:AV→ad→Prop}{l:List bn}(hx:Sl 5 (ef l) x9)(hl:l.length<4611686018427387904) : ∀(s:List bn)(k:Nat)(i n:Int)(H:ad),l.drop k=s→k≤l.length→i=k →
 (∀y H',y=aI (vM n s)→Q y H') →
 b7 env Tryz.f103 0 lb [(11,aI i),(3,aI n),(9,x9),(10,aI l.length)] H Q:=by
 intro s
 induction s with
 | nil =>
  rintro k i n H hs hk rfl h
  obtain rfl:=drop_nil hs hk
  refine rH _ _ _ _ _ _ fun g=>?_
  simp[ah,ai,ae,af,ab, *,nW]
  exact h _ H rfl
 | cons a s ih =>
  rintro k i n H hs hk rfl h
  obtain⟨hlt,hg,hs',hg'⟩:=drop_cons hs
  refine rH _ _ _ _ _ _ fun g=>?_
  simp[ah,ai,ae,af,ab, *,nW,hx.idx,hlt,hg,bn.enc,IntWalk.i64_in ((k:Int)+1) (by omega)]
  exact ih (k+1) _ _ _ hs' (by omega) (by omega) h
section
variable{xu xq:AV}{us:List Clear}{qs:List bn}{gr:Int}(hu:Sl 3 (ed us) xu)(hq:Sl 5 (ef qs) xq)(hql:qs.length<4611686018427387904)(hul:us.length<4611686018427387904)
include hu hq hql
@[simp] theorem N8:bj env 103 [.agg [xu,xq,aI gr]]=some (aI (vM gr qs)):=by
 refine aG (fn:=Tryz.f103) (c:=p8) rfl (by kernel_rfl) (by kernel_rfl) (by kernel_rfl) (by kernel_rfl) ?_;refine Ce _ _ _ fun g=>?_
 simp[ah,ai,ae,af,ab, *,vV,hu.r,hq.r]
 exact Lf hq hql qs 0 _ _ _ rfl (by omega) rfl (fun y H' e=>by simp[e])
theorem Un{x85:AV}{r1:Ref}{may:Bool}{Q:AV→ad→Prop}{l:List bn}(hx:Sl 5 (ef l) x85)(hl:l.length<4611686018427387904) : ∀(s:List bn)(k:Nat)(i n:Int)(H:ad),l.drop k=s→k≤l.length→i=k →
 Fr H→H.get r1=some ⟨3,[.agg [xu,xq,aI gr]],false,false⟩ →
 (∀y H',y=aI (bad (may&&(!decide (2048<vM gr qs) && !decide (8192<cellsOf n s))))→Q y H') →
 b7 env Tryz.f102 0 ld [(87,aI i),(8,aI n),(85,x85),(1,.ptr r1 0 0),(3,aB may),(86,aI l.length)] H Q:=by
 intro s
 induction s with
 | nil =>
  rintro k i n H hs hk rfl hF hB h
  obtain rfl:=drop_nil hs hk
  refine rI _ _ _ _ _ _ _ _ fun g=>?_
  have hb:=N8 (gr:=gr) hu hq hql
  simp[ah,ai,ae,af,ab, *,nX]
  repeat' ((first | refine mZ (fun h=>?_) (fun h=>?_) | refine lz (fun h=>?_) (fun h=>?_) | refine lA (fun h=>?_) (fun h=>?_) | refine lx (fun h=>?_) (fun h=>?_) | refine ly (fun h=>?_) (fun h=>?_))<;>(try simp only[decide_eq_true_eq,decide_eq_false_iff_not,Bool.not_eq_true',Bool.not_eq_false',Bool.and_eq_true,Bool.or_eq_true]at h)<;>(try simp[ah,ai,ae,af,ab, *,hu.r,hq.r,hb,bad,cellsOf]))
 | cons a s ih =>
  rintro k i n H hs hk rfl hF hB h
  obtain⟨hlt,hg,hs',hg'⟩:=drop_cons hs
  refine rI _ _ _ _ _ _ _ _ fun g=>?_
  simp[ah,ai,ae,af,ab, *,nX,hx.idx,hlt,hg,bn.enc,IntWalk.i64_in ((k:Int)+1) (by omega)]
  exact ih (k+1) _ _ _ hs' (by omega) (by omega) (by simp(maxDischargeDepth:=12) [aD,aq,Fr.nil,aJ,ah,ai,ae,af,aC,ar,ab, *]) (by simp(maxDischargeDepth:=12) [aD,aq,Fr.nil,aJ,ah,ai,ae,af,aC,ar,ab, *]) h
def Sk(may:Bool)(p:Option bn):List bn→Bool
 | []=>may
 | q :: s=>Sk (may&&(S9 q&&(match p with | none=>true | some p=>Iu p q))) (some q) s
theorem W8{r1:Ref}{Q:AV→ad→Prop} : ∀(s:List bn)(k:Nat)(i:Int)(may:Bool)(H:ad),qs.drop k=s→k≤qs.length→i=k →
 Fr H→H.get r1=some ⟨3,[.agg [xu,xq,aI gr]],false,false⟩ →
 (∀y H',y=aI (bad (Sk may (if k=0 then none else qs[k - 1]?) s&&(!decide (2048<vM gr qs) && !decide (8192<cellsOf 0 (qs.take 8)))))→Q y H') →
 b7 env Tryz.f102 0 lW [(40,aI i),(1,.ptr r1 0 0),(3,aB may),(38,xq),(39,aI qs.length)] H Q:=by
 intro s
 induction s with
 | nil =>
  rintro k i may H hs hk rfl hF hB h
  obtain rfl:=drop_nil hs hk
  refine ti _ _ _ _ _ _ _ fun g=>?_
  have hmin:(if (8:Int)<qs.length then (8:Int) else qs.length)=((min 8 qs.length:Nat):Int):=by split<;>omega
  have hs:=EP (P:=env.P) (t:=23) (z:=5) (by simp) H.get hq (n:=((min 8 qs.length:Nat):Int)) (by omega) (by simp;omega)
  obtain⟨y,ey,sy⟩:=hs
  have ht:(ef qs).take (min 8 qs.length)=ef (qs.take 8):=by
   rw[←List.map_take];congr 1
   rcases Nat.le_total 8 qs.length with h | h
   ·rw[Nat.min_eq_left h]
   ·rw[Nat.min_eq_right h,List.take_of_length_le (Nat.le_refl _),List.take_of_length_le h]
  rw[Int.toNat_natCast,ht]at sy
  simp[ah,ai,ae,af,ab, *,ia,hB,hq.len,hmin,ey,sy.len]
  have hl8:(qs.take 8).length=min 8 qs.length:=List.length_take
  rw[←hl8]
  exact Un hu hq hql sy (by omega) _ 0 0 0 H rfl (by omega) rfl hF hB (fun y H' e=>h y H' (by simpa [Sk] using e))
 | cons a s ih =>
  rintro k i may H hs hk rfl hF hB h
  obtain⟨hlt,hg,hs',hg'⟩:=drop_cons hs
  have hi:=ih (k+1)
  refine ti _ _ _ _ _ _ _ fun g=>?_
  cases k with
  | zero =>
   have e1:IntKind.i64.wrap 1=1:=rfl
   cases may
   ·simp[ah,ai,ae,af,ab, *,ia,hq.idx,hlt,hg,bn.enc,e1]
    exact hi _ _ _ hs' (by omega) rfl (by simp(maxDischargeDepth:=12) [aD,aq,Fr.nil,aJ,ah,ai,ae,af,aC,ar,ab, *]) (by simp(maxDischargeDepth:=12) [aD,aq,Fr.nil,aJ,ah,ai,ae,af,aC,ar,ab, *]) (fun y H' e=>h y H' (by simpa [Sk,hg'] using e))
   ·simp[ah,ai,ae,af,ab, *,ia,hq.idx,hlt,hg,bn.enc,e1]
    exact hi _ _ _ hs' (by omega) rfl (by simp(maxDischargeDepth:=12) [aD,aq,Fr.nil,aJ,ah,ai,ae,af,aC,ar,ab, *]) (by simp(maxDischargeDepth:=12) [aD,aq,Fr.nil,aJ,ah,ai,ae,af,aC,ar,ab, *]) (fun y H' e=>h y H' (by simpa [Sk,hg',S9] using e))
  | succ k =>
   have e1:IntKind.i64.wrap ((k:Int)+1+1)=(k:Int)+1+1:=IntWalk.i64_in _ (by omega)
   have e2:IntKind.i64.wrap (k:Int)=k:=IntWalk.i64_in _ (by omega)
   have e3 : ¬(k:Int)<0:=by omega
   have e4 : ¬(k:Int)+1=0:=by omega
   have e5:k<qs.length:=by omega
   have e6:(k:Int)+1<qs.length:=by omega
   have e7:(0:Int)≤k+1:=by omega
   cases may
   ·simp[ah,ai,ae,af,ab, *,ia,hq.idx,hlt,hg,bn.enc,e1,e2,e3,e4,e5,e6,e7]
    exact hi _ _ _ hs' (by omega) (by simp) (by simp(maxDischargeDepth:=12) [aD,aq,Fr.nil,aJ,ah,ai,ae,af,aC,ar,ab, *]) (by simp(maxDischargeDepth:=12) [aD,aq,Fr.nil,aJ,ah,ai,ae,af,aC,ar,ab, *]) (fun y H' e=>h y H' (by simpa [Sk,hg'] using e))
   ·simp[ah,ai,ae,af,ab, *,ia,hq.idx,hlt,hg,bn.enc,e1,e2,e3,e4,e5,e6,e7,hB,ah hF (q:=r1)]
    exact hi _ _ _ hs' (by omega) (by simp) (by simp(maxDischargeDepth:=12) [aD,aq,Fr.nil,aJ,ah,ai,ae,af,aC,ar,ab, *]) (by simp(maxDischargeDepth:=12) [aD,aq,Fr.nil,aJ,ah,ai,ae,af,aC,ar,ab, *]) (fun y H' e=>h y H' (by simpa [Sk,hg',S9,Iu,List.getElem?_eq_getElem e5,Bool.and_assoc] using e))
omit hu hq hql in
theorem TC : ∀(s:List bn)(may:Bool)(p:Option bn),Sk may p s=(may&&Oy p s):=by
 intro s
 induction s with
 | nil=>intro may p;simp[Sk,Oy]
 | cons q s ih=>intro may p;cases p<;>simp[Sk,Oy,ih,Bool.and_assoc]
include hul
theorem W9{r1:Ref}{Q:AV→ad→Prop} : ∀(s:List Clear)(k:Nat)(i:Int)(may:Bool)(H:ad),us.drop k=s→k≤us.length→i=k →
 Fr H→H.get r1=some ⟨3,[.agg [xu,xq,aI gr]],false,false⟩ →
 (∀y H',y=aI (bad (((may&&s.all fun c=>I7 c.lv c.cats c.ok)&&Oy none qs)&&(!decide (2048<vM gr qs) && !decide (8192<cellsOf 0 (qs.take 8)))))→Q y H') →
 b7 env Tryz.f102 0 lX [(27,aI i),(3,aB may),(25,xu),(1,.ptr r1 0 0),(26,aI us.length)] H Q:=by
 intro s
 induction s with
 | nil =>
  rintro k i may H hs hk rfl hF hB hQ
  obtain rfl:=drop_nil hs hk
  refine tj _ _ _ _ _ _ _ fun g=>?_
  simp[ah,ai,ae,af,ab, *,py,hB,hq.len]
  exact W8 hu hq hql qs 0 0 may H rfl (by omega) rfl hF hB (fun y H' e=>hQ y H' (by simpa [TC] using e))
 | cons a s ih =>
  rintro k i may H hs hk rfl hF hB hQ
  obtain⟨hlt,hg,hs',hg'⟩:=drop_cons hs
  refine tj _ _ _ _ _ _ _ fun g=>?_
  simp[ah,ai,ae,af,ab, *,py,hu.idx,hlt,hg,Clear.enc]
  repeat' ((first | refine mZ (fun h=>?_) (fun h=>?_) | refine lz (fun h=>?_) (fun h=>?_) | refine lA (fun h=>?_) (fun h=>?_) | refine lx (fun h=>?_) (fun h=>?_) | refine ly (fun h=>?_) (fun h=>?_))<;>(try simp only[decide_eq_true_eq,decide_eq_false_iff_not,Bool.not_eq_true',Bool.not_eq_false',Bool.and_eq_true,Bool.or_eq_true]at h)<;>(try simp[ah,ai,ae,af,ab, *,hu.idx,hlt,hg,Clear.enc]))
  ·simp[IntWalk.i64_in ((k:Int)+1) (by omega)]
   exact ih (k+1) _ _ _ hs' (by omega) (by simp) (by simp(maxDischargeDepth:=12) [aD,aq,Fr.nil,aJ,ah,ai,ae,af,aC,ar,ab, *]) (by simp(maxDischargeDepth:=12) [aD,aq,Fr.nil,aJ,ah,ai,ae,af,aC,ar,ab, *]) (fun y H' e=>hQ y H' (by simp[*,Bool.and_assoc]))
  ·simp[IntWalk.i64_in ((k:Int)+1) (by omega)]
   exact ih (k+1) _ _ _ hs' (by omega) (by simp) (by simp(maxDischargeDepth:=12) [aD,aq,Fr.nil,aJ,ah,ai,ae,af,aC,ar,ab, *]) (by simp(maxDischargeDepth:=12) [aD,aq,Fr.nil,aJ,ah,ai,ae,af,aC,ar,ab, *]) (fun y H' e=>hQ y H' (by simp[*,Bool.and_assoc]))
@[simp] theorem AT:bj env 102 [.agg [xu,xq,aI gr]]=some (aI (bad (GM us qs gr))):=by
 refine aG (fn:=Tryz.f102) (c:=lJ) rfl (by kernel_rfl) (by kernel_rfl) (by kernel_rfl) (by kernel_rfl) ?_;refine Dz _ _ _ fun g=>?_
 simp[ah,ai,ae,af,ab, *,xi,hu.r,hq.r]
 refine W9 (gr:=gr) hu hq hql hul us 0 _ _ _ rfl (by omega) rfl ?_ ?_ ?_
 ·simp(maxDischargeDepth:=12) [aD,aq,Fr.nil,aJ,ah,ai,ae,af,aC,ar,ab, *]
 ·simp(maxDischargeDepth:=12) [aD,aq,Fr.nil,aJ,ah,ai,ae,af,aC,ar,ab, *]
 rintro y H' rfl
 simp only[TB (f:=17) (by rfl),bJ,Vw,Option.some.injEq]
 rw[GM,aaE,aaE]
 have e (n:Nat):decide ((n:Int)≤8)=decide (n≤8):=by congr 1;exact propext (by omega)
 simp only[e,Bool.and_assoc]
@[simp] theorem JI(a:UInt8)(b:UInt32):bj env 104 [.agg [xu,xq,aI gr],.agg [a8 a,aF b]]=some (aI (nv us qs gr a)):=by
 refine aG (fn:=Tryz.f104) (c:=wY) rfl (by kernel_rfl) (by kernel_rfl) (by kernel_rfl) (by kernel_rfl) ?_;refine Dx _ _ _ _ fun g=>?_
 simp[ah,ai,ae,af,ab, *,xf,hu.r,hq.r,AT hu hq hql hul,nv]
end
end Go.Proofs.YtmkmimgokagimaaGreat
