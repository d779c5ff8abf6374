/-
  The document's functions of policy, on: what they answer. No statement of a seat is proved here.
-/
import Derived.Test.YtgooemdlilfkmaaPolRef
set_option linter.unusedVariables false
set_option linter.unusedSimpArgs false
set_option linter.unusedSectionVars false
set_option linter.unnecessarySimpa false
set_option maxRecDepth 100000
namespace Go.Proofs.Ytgooemdlilfkmaa
open Go.Ab
attribute [local simp] cA bA keep thr
def addR(n:Int)(q:Quota):Int:=IntKind.i64.wrap (IntKind.i64.wrap (n+q.opens)+IntKind.i64.wrap (4 * q.ops))
def rsum(n:Int)(l:List Quota):Int:=l.foldl addR n
def Ax(n:Int)(q:Quota):Int:=IntKind.i64.wrap (n+q.cells)
def mG(n:Int)(l:List Quota):Int:=l.foldl Ax n
theorem si(n:Int):mG n []=n:=id rfl
section
variable{xu xq:AV}{us:List Clear}{qs:List Quota}{gr:Int}(hu:Sl 3 (av us) xu)(hq:Sl 5 (ay qs) xq)(hql:qs.length<4611686018427387904)(hul:us.length<4611686018427387904)
include hu hq hql hul
theorem tD{r1:Ref}{Q:AV→Heap→Prop} : ∀(s:List Quota)(k:Nat)(i n:Int)(H:Heap),qs.drop k=s→k≤qs.length→i=k →
 Fr H→H.get r1=some ⟨3,[.agg [xu,xq,aI gr]],false,false⟩→(∀y H',y=aI (rsum n s)→Q y H') →
 GoL env Try.f54 0 cz [(4,aI i),(1,.ptr r1 0 0),(3,aI n)] H Q:=by
 intro s
 induction s with
 | nil =>
  rintro k i n H hs hk rfl hF hB hQ
  obtain rfl:=drop_nil hs hk
  refine eZ _ _ _ _ _ fun g=>?_
  simp[ae,af,ab,ad,aa, *,dw,hq.r]
  all_goals (first | exact hQ _ _ rfl | exact hQ _ _ (by simp[*]))
 | cons q s ih =>
  rintro k i n H hs hk rfl hF hB hQ
  obtain⟨hlt,hg,hs',hg'⟩:=drop_cons hs
  refine eZ _ _ _ _ _ fun g=>?_
  simp[ae,af,ab,ad,aa, *,dw,hq.r,hq.idx,Quota.enc,IntWalk.i64_in ((k:Int)+1) (by omega)]
  exact ih (k+1) _ _ _ hs' (by omega) (by simp) hF hB hQ
@[simp] theorem BW:limf env 54 [.agg [xu,xq,aI gr]]=some (aI (rsum gr qs)):=by
 refine aH (fn:=Try.f54) (c:=dO) rfl (by kernel_rfl) (by kernel_rfl) (by kernel_rfl) (by kernel_rfl) ?_;refine jC _ _ _ fun g=>?_
 simp[ae,af,ab,ad,aa, *,fP,hu.r,hq.r]
 exact tD (gr:=gr) hu hq hql hul qs 0 _ _ _ rfl (by omega) rfl (by simp(maxDischargeDepth:=12) [an,ai,Fr.nil,au,ae,af,ab,ad,al,ah,aa, *]) (by simp(maxDischargeDepth:=12) [an,ai,Fr.nil,au,ae,af,ab,ad,al,ah,aa, *]) fun y H' e=>by simp[e]
theorem xJ{r1:Ref}{Q:AV→Heap→Prop} : ∀(s:List Quota)(k:Nat)(i n:Int)(H:Heap),qs.drop k=s→k≤qs.length→i=k →
 Fr H→H.get r1=some ⟨3,[.agg [xu,xq,aI gr]],false,false⟩→(∀y H',y=aB (decide (rsum gr qs≤2048)&&decide (mG n s≤8192))→Q y H') →
 GoL env Try.f53 0 bU [(6,aI i),(1,.ptr r1 0 0),(5,aI n)] H Q:=by
 intro s
 induction s with
 | nil =>
  rintro k i n H hs hk rfl hF hB hQ
  obtain rfl:=drop_nil hs hk
  refine eb _ _ _ _ _ fun g=>?_
  have:=BW (gr:=gr) hu hq hql hul
  simp[ae,af,ab,ad,aa, *,cQ,hq.r,hu.r]
  repeat' ((first | refine jM (fun h=>?_) (fun h=>?_) | refine gn (fun h=>?_) (fun h=>?_) | refine gp (fun h=>?_) (fun h=>?_) | refine gl (fun h=>?_) (fun h=>?_) | refine gm (fun h=>?_) (fun h=>?_))<;>(try simp only[decide_eq_true_eq,decide_eq_false_iff_not,Bool.not_eq_true',Bool.not_eq_false',Bool.and_eq_true,Bool.or_eq_true]at h)<;>(try simp[ae,af,ab,ad,aa, *,hq.r,hu.r]))
  all_goals (first | exact hQ _ _ rfl | exact hQ _ _ (by simp[*,si]))
 | cons q s ih =>
  rintro k i n H hs hk rfl hF hB hQ
  obtain⟨hlt,hg,hs',hg'⟩:=drop_cons hs
  refine eb _ _ _ _ _ fun g=>?_
  simp[ae,af,ab,ad,aa, *,cQ,hq.r,hq.idx,Quota.enc,IntWalk.i64_in ((k:Int)+1) (by omega)]
  exact ih (k+1) _ _ _ hs' (by omega) (by simp) hF hB hQ
theorem zH{r1:Ref}{Q:AV→Heap→Prop} : ∀(s:List Quota)(k:Nat)(i:Int)(H:Heap),qs.drop k=s→k≤qs.length→i=k →
 Fr H→H.get r1=some ⟨3,[.agg [xu,xq,aI gr]],false,false⟩→(∀y H',y=aB (qRow (if k=0 then none else qs[k - 1]?) s&&(decide (rsum gr qs≤2048)&&decide (mG 0 qs≤8192)))→Q y H') →
 GoL env Try.f53 0 b7 [(4,aI i),(1,.ptr r1 0 0)] H Q:=by
 intro s
 induction s with
 | nil =>
  rintro k i H hs hk rfl hF hB hQ
  obtain rfl:=drop_nil hs hk
  refine eC _ _ _ _ fun g=>?_
  simp[ae,af,ab,ad,aa, *,b9,hq.r]
  exact xJ (gr:=gr) hu hq hql hul qs 0 _ _ _ rfl (by omega) rfl hF hB fun y H' e=>hQ _ _ (by simp[e,qRow])
 | cons q s ih =>
  rintro k i H hs hk rfl hF hB hQ
  obtain⟨hlt,hg,hs',hg'⟩:=drop_cons hs
  have hi:=ih (k+1)
  refine eC _ _ _ _ fun g=>?_
  cases k with
  | zero =>
   have e1:IntKind.i64.wrap 1=1:=rfl
   simp[ae,af,ab,ad,aa, *,b9,hq.r,hq.idx,Quota.enc]
   repeat' ((first | refine jM (fun h=>?_) (fun h=>?_) | refine gn (fun h=>?_) (fun h=>?_) | refine gp (fun h=>?_) (fun h=>?_) | refine gl (fun h=>?_) (fun h=>?_) | refine gm (fun h=>?_) (fun h=>?_))<;>(try simp only[decide_eq_true_eq,decide_eq_false_iff_not,Bool.not_eq_true',Bool.not_eq_false',Bool.and_eq_true,Bool.or_eq_true]at h)<;>(try simp[ae,af,ab,ad,aa, *,hq.r,hq.idx]))
   ·all_goals (first | exact hQ _ _ rfl | exact hQ _ _ (by simp[*,qRow]))
   ·exact hi _ _ hs' (by omega) rfl hF hB fun y H' e=>hQ y H' (by simpa [*,qRow] using e)
  | succ k =>
   have e1:IntKind.i64.wrap ((k:Int)+1+1)=(k:Int)+1+1:=IntWalk.i64_in _ (by omega)
   have e2:IntKind.i64.wrap (k:Int)=k:=IntWalk.i64_in _ (by omega)
   have e4 : ¬(k:Int)+1=0:=by omega
   have e5:k<qs.length:=by omega
   have e6:(k:Int)+1<qs.length:=by omega
   have e7:(0:Int)≤k+1:=by omega
   have e8:(0:Int)<(k:Int)+1:=by omega
   have e9:(k:Int)<qs.length:=by omega
   have e10:qs[k]?=some qs[k]:=List.getElem?_eq_getElem e5
   simp[ae,af,ab,ad,aa, *,b9,hq.r,hq.idx,Quota.enc]
   repeat' ((first | refine jM (fun h=>?_) (fun h=>?_) | refine gn (fun h=>?_) (fun h=>?_) | refine gp (fun h=>?_) (fun h=>?_) | refine gl (fun h=>?_) (fun h=>?_) | refine gm (fun h=>?_) (fun h=>?_))<;>(try simp only[decide_eq_true_eq,decide_eq_false_iff_not,Bool.not_eq_true',Bool.not_eq_false',Bool.and_eq_true,Bool.or_eq_true]at h)<;>(try simp[ae,af,ab,ad,aa, *,hq.r,hq.idx,Quota.enc]))
   all_goals first
    | exact hQ _ _ (by simp[*,qRow,mJ])
    | exact hi _ _ hs' (by omega) (by simp) hF hB fun y H' e=>hQ y H' (by simpa [*,qRow,mJ] using e)
    | skip
theorem zI{r1:Ref}{Q:AV→Heap→Prop} : ∀(s:List Clear)(k:Nat)(i:Int)(H:Heap),us.drop k=s→k≤us.length→i=k →
 Fr H→H.get r1=some ⟨3,[.agg [xu,xq,aI gr]],false,false⟩→(∀y H',y=aB (s.all (fun c=>jf c.lv c.cats c.ok)&&(qRow none qs&&(decide (rsum gr qs≤2048)&&decide (mG 0 qs≤8192))))→Q y H') →
 GoL env Try.f53 0 b8 [(3,aI i),(1,.ptr r1 0 0)] H Q:=by
 intro s
 induction s with
 | nil =>
  rintro k i H hs hk rfl hF hB hQ
  obtain rfl:=drop_nil hs hk
  refine eD _ _ _ _ fun g=>?_
  simp[ae,af,ab,ad,aa, *,cU,hu.r]
  exact zH (gr:=gr) hu hq hql hul qs 0 _ _ rfl (by omega) rfl hF hB fun y H' e=>hQ _ _ (by simp[e])
 | cons c s ih =>
  rintro k i H hs hk rfl hF hB hQ
  obtain⟨hlt,hg,hs',hg'⟩:=drop_cons hs
  refine eD _ _ _ _ fun g=>?_
  simp[ae,af,ab,ad,aa, *,cU,hu.r,hu.idx,Clear.enc,IntWalk.i64_in ((k:Int)+1) (by omega)]
  repeat' ((first | refine jM (fun h=>?_) (fun h=>?_) | refine gn (fun h=>?_) (fun h=>?_) | refine gp (fun h=>?_) (fun h=>?_) | refine gl (fun h=>?_) (fun h=>?_) | refine gm (fun h=>?_) (fun h=>?_))<;>(try simp only[decide_eq_true_eq,decide_eq_false_iff_not,Bool.not_eq_true',Bool.not_eq_false',Bool.and_eq_true,Bool.or_eq_true]at h)<;>(try simp[ae,af,ab,ad,aa, *,hu.r,IntWalk.i64_in ((k:Int)+1) (by omega)]))
  exact ih (k+1) _ _ hs' (by omega) (by simp) hF hB fun y H' e=>hQ y H' (by simpa [*] using e)
def pR(us:List Clear)(qs:List Quota)(gr:Int):Bool :=
 (!decide (8<us.length)&&(!decide (8<qs.length)&&(!decide (gr<0) && !decide (64<gr))))&&(us.all (fun c=>jf c.lv c.cats c.ok)&&(qRow none qs&&(decide (rsum gr qs≤2048)&&decide (mG 0 qs≤8192))))
theorem vv:limf env 53 [.agg [xu,xq,aI gr]]=some (aB (pR us qs gr)):=by
 refine aH (fn:=Try.f53) (c:=bQ) rfl (by kernel_rfl) (by kernel_rfl) (by kernel_rfl) (by kernel_rfl) ?_;refine iK _ _ _ fun g=>?_
 have e8 (n:Nat):((8:Int)<(n:Int))↔8<n:=by omega
 simp[ae,af,ab,ad,aa, *,fj,hu.r,hq.r]
 repeat' ((first | refine jM (fun h=>?_) (fun h=>?_) | refine gn (fun h=>?_) (fun h=>?_) | refine gp (fun h=>?_) (fun h=>?_) | refine gl (fun h=>?_) (fun h=>?_) | refine gm (fun h=>?_) (fun h=>?_))<;>(try simp only[decide_eq_true_eq,decide_eq_false_iff_not,Bool.not_eq_true',Bool.not_eq_false',Bool.and_eq_true,Bool.or_eq_true]at h)<;>(try simp[ae,af,ab,ad,aa, *,hu.r,hq.r,pR]))
 refine zI (gr:=gr) hu hq hql hul us 0 _ _ rfl (by omega) rfl (by simp(maxDischargeDepth:=12) [an,ai,Fr.nil,au,ae,af,ab,ad,al,ah,aa, *]) (by simp(maxDischargeDepth:=12) [an,ai,Fr.nil,au,ae,af,ab,ad,al,ah,aa, *]) fun y H' e=>?_
 simp[*,pR]
omit hu hq in
theorem vC : ∀ {l:List Quota} {n:Int},(∀q∈l,qOwn q=true)→0≤n→n+1088 * l.length≤4611686018427387904→rsum n l=sumQ n l:=by
 intro l
 induction l with
 | nil=>intro n _ h0 h1;rfl
 | cons q l ih =>
  intro n h h0 h1
  have hq:=oF (h q (List.mem_cons_self ..))
  simp only[List.length_cons]at h1
  have e1:IntKind.i64.wrap (4 * q.ops)=4 * q.ops:=IntWalk.i64_in _ (by omega)
  have e2:IntKind.i64.wrap (n+q.opens)=n+q.opens:=IntWalk.i64_in _ (by omega)
  have e3:IntKind.i64.wrap (n+q.opens+4 * q.ops)=n+q.opens+4 * q.ops:=IntWalk.i64_in _ (by omega)
  have:=ih (n:=n+q.opens+4 * q.ops) (fun x hx=>h x (List.mem_cons_of_mem _ hx)) (by omega) (by omega)
  simp only[rsum,sumQ,List.foldl_cons,addR,e1,e2,e3]at this ⊢
  exact this
omit hu hq in
theorem sh : ∀ {l:List Quota} {n:Int},(∀q∈l,qOwn q=true)→0≤n→n+4096 * l.length≤4611686018427387904→mG n l=sumC n l:=by
 intro l
 induction l with
 | nil=>intro n _ h0 h1;rfl
 | cons q l ih =>
  intro n h h0 h1
  have hq:=oF (h q (List.mem_cons_self ..))
  simp only[List.length_cons]at h1
  have e1:IntKind.i64.wrap (n+q.cells)=n+q.cells:=IntWalk.i64_in _ (by omega)
  have:=ih (n:=n+q.cells) (fun x hx=>h x (List.mem_cons_of_mem _ hx)) (by omega) (by omega)
  simp only[mG,sumC,List.foldl_cons,Ax,e1]at this ⊢
  exact this
omit hu hq in
theorem tH:pR us qs gr=mayB us qs gr:=by
 rw[oR,pR]
 by_cases h1:us.length≤8
 ·by_cases h2:qs.length≤8
  ·by_cases h3:0≤gr∧gr≤64
   ·cases h5:qRow none qs with
    | false=>simp
    | true =>
     have ho:=rz h5
     rw[vC hql hul ho h3.1 (by omega),sh hql hul ho (by omega) (by omega)]
     have g1 : ¬8<us.length:=by omega
     have g2 : ¬8<qs.length:=by omega
     have g3 : ¬gr<0:=by omega
     have g4 : ¬64<gr:=by omega
     simp[h1,h2,h3,g1,g2,g3,g4]
   ·have:(decide (0≤gr)&&decide (gr≤64))=false:=by simp;omega
    have g:(!decide (gr<0) && !decide (64<gr))=false:=by simp;omega
    simp[this,g]
  ·have g2:8<qs.length:=by omega
   simp[h2,g2]
 ·have g1:8<us.length:=by omega
  simp[h1,g1]
@[simp] theorem mB:limf env 53 [.agg [xu,xq,aI gr]]=some (aB (mayB us qs gr)):=by
 rw[vv hu hq hql hul,tH hql hul]
end
end Go.Proofs.Ytgooemdlilfkmaa
