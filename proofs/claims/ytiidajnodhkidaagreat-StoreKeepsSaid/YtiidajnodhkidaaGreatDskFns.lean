/-
  Disks: what the functions answer. No statement of a seat is proved here.
-/
import Derived.Test.YtiidajnodhkidaaGreatStVc1
set_option linter.unusedVariables false
set_option linter.unusedSimpArgs false
set_option linter.unusedSectionVars false
set_option linter.unnecessarySimpa false
set_option maxRecDepth 100000
namespace Go.Proofs.YtiidajnodhkidaaGreat
open Go.Ab
attribute [local simp] ct bK bO bN keep thr cC bD bP eE eD cN cB aV dk List.take_of_length_le
structure Sec where
 pos:Int
 bs:List UInt8
 av:AV
def Sec.enc(s:Sec):AV := .agg [aI s.pos,s.av]
def oL(s:Sec):Prop:=Sl 1 (by8 s.bs) s.av
def encS(l:List Sec):List AV:=l.map Sec.enc
@[simp] theorem wT(l:List Sec):(encS l).length=l.length:=by simp[encS]
def dsk(x:AV)(st lf:Int)(dd:Bool):AV := .agg [x,aI st,aI lf,aB dd]
theorem OT{x:AV}{l:List UInt8}(hx:Sl 1 (by8 l) x)(hl:l.length=128):limf env 79 [x]=some (.isl 1 (by8 l) none):=by
 refine aH (fn:=Tryz.f79) (c:=yt) rfl (by kernel_rfl) (by kernel_rfl) (by kernel_rfl) (by kernel_rfl) ?_;refine D5 _ _ _ fun g=>?_
 have h1:=hx.r
 have hmk:=wN (P:=env.P) (t:=76) (z:=1) (by':=1) (zz:=a8 0) (r:=⟨0,6,0,0⟩) (by kernel_rfl) (by kernel_rfl) (n:=128) (by decide) (by decide)
 have hb:(by8 l).length=128:=by simp[hl]
 rcases hx with ⟨rfl,h2⟩ | ⟨c,rfl,h2⟩
 ·rw[h2]at hb;cases hb
 ·have hc : ∀(H:Heap)(L:List AV),L.length=128→H.get ⟨0,6,0,0⟩=some ⟨1,L,true,false⟩→uM env.P H (some 76) (.osl ⟨0,6,0,0⟩ 0 128 none) (.isl 1 (by8 l) c)=some (aI 128,H.put ⟨0,6,0,0⟩ (some ⟨1,by8 l,true,false⟩)):=by
   intro H L hL hH
   have ht:(by8 l).take 128=by8 l:=List.take_of_length_le (by omega)
   have ht':L.drop 128=[]:=List.drop_of_length_le (by omega)
   have hm:Nat.min (by8 l).length 128=128:=by rw[hb];rfl
   have hn:iD (.isl 1 (by8 l) c)=false:=rfl
   have he:dq H.get (.isl 1 (by8 l) c)=some (1,by8 l):=rfl
   simp only[uM,hn,he,Option.bind_some,hH]
   simp[hm,ht,ht',hL,hb]
  have hc':=fun H=>hc H (List.replicate 128 (a8 0)) (by simp)
  simp[af,ah,ad,ae,aa, *,yD,hl]
  have hm':Int.ofNat l.length=128:=by simp[hl]
  rw[show((128:Nat):Int)=128 from rfl]at hmk
  simp[hmk,hc',hb]
@[simp] theorem WH(a:Int):limf env 173 [aI a]=some (aB false):=by
 refine aH (fn:=Tryz.f173) (c:=pe) rfl (by kernel_rfl) (by kernel_rfl) (by kernel_rfl) (by kernel_rfl) ?_;refine uO _ _ _ fun g=>?_
 simp[af,ah,ad,ae,aa, *,ph]
@[simp] theorem SE(a b:Int):limf env 149 [aI a,aI b]=some (aI (if a<b then -1 else if b<a then 1 else 0)):=by
 refine aH (fn:=Tryz.f149) (c:=nC) rfl (by kernel_rfl) (by kernel_rfl) (by kernel_rfl) (by kernel_rfl) ?_;refine sM _ _ _ _ fun g=>?_
 simp[af,ah,ad,ae,aa, *,nJ]
 repeat' ((first | refine td (fun h=>?_) (fun h=>?_) | refine nr (fun h=>?_) (fun h=>?_) | refine nv (fun h=>?_) (fun h=>?_) | refine nn (fun h=>?_) (fun h=>?_) | refine np (fun h=>?_) (fun h=>?_))<;>(try simp only[decide_eq_true_eq,decide_eq_false_iff_not,Bool.not_eq_true',Bool.not_eq_false',Bool.and_eq_true,Bool.or_eq_true]at h)<;>(try simp[af,ah,ad,ae,aa, *]))
 done
theorem IT(a b:Int)(x:AV)(h:x.one=true)(hv : ∀g n,view g (n+1) x=some x):limf env 148 [.agg [aI a,x],aI b]=some (aI (if a<b then -1 else if b<a then 1 else 0)):=by
 refine aH (fn:=Tryz.f148) (c:=sq) rfl (by kernel_rfl) (by kernel_rfl) (by kernel_rfl) (by kernel_rfl) ?_;refine yT _ _ _ _ fun g=>?_
 simp[af,ah,ad,ae,aa, *,sI]
def nth(l:List Sec)(q:Int):Nat:=(l.takeWhile fun s=>decide (s.pos<q)).length
def jX(l:List Sec)(q:Int)(n:Nat):Bool:=match l[n]? with | some s=>decide (s.pos=q) | none=>false
section
variable{l:List Sec}{x:AV}{q:Int}{N:Nat}(hx:Sl 2 (encS l) x)(hok : ∀s∈l,oL s)(hl:l.length<1000000)(hN : ∀k (h:k<l.length),(l[k].pos<q↔k<N))(hNl:N≤l.length)
include hx hok hl hN hNl
theorem QS{Q:AV→Heap→Prop} : ∀(m i j:Nat)(H:Heap),j - i≤m→i≤N→N≤j→j≤l.length→Fr H →
 (∀y H',y = .tup [aI N,aB (jX l q N)]→Q y H') →
 GoL env Tryz.f147 0 aK [(1,aI q),(0,x),(2,.fn (.func 148) [] []),(10,aI j),(9,aI i),(8,aI l.length)] H Q:=by
 intro m
 induction m with
 | zero =>
  intro i j H hm hi hj hjl hF hQ
  obtain rfl:i=j:=by omega
  obtain rfl:i=N:=by omega
  refine b9 _ _ _ _ _ _ _ _ fun g=>?_
  by_cases hlt:i<l.length
  ·have hg:(encS l)[i]?=some (l[i]).enc:=by simp[encS,hlt]
   have hs:=(hok l[i] (List.getElem_mem _)).r
   have h2:=IT l[i].pos q l[i].av
   have hrd:ee (encS l) i 0 2 true=some (.agg [aI l[i].pos,l[i].av]):=by simp[encS,hlt,Sec.enc]
   have h3:=h2 hs.2.2.2.2.1 hs.2.1
   have hh:jX l q i=decide (l[i].pos=q):=by simp[jX,hlt]
   simp only[hh]at hQ
   have hlt' : ¬l[i].pos<q:=by intro h;exact absurd ((hN i hlt).1 h) (by omega)
   clear hN h2 hok
   simp[af,ah,ad,ae,aa, *,aQ,hx.r,hx.idx,Sec.enc,cS]
   exact hQ _ _ (by
    have:decide (l[i].pos≤q)=decide (l[i].pos=q):=by simp only[decide_eq_decide];omega
    rw[this])
  ·have hh:jX l q i=false:=by simp[jX,hlt]
   simp only[hh]at hQ
   simp[af,ah,ad,ae,aa, *,aQ,hx.r,hx.idx,Sec.enc,cS]
 | succ m ih =>
  intro i j H hm hi hj hjl hF hQ
  by_cases hij:i<j
  ·have e1:=IntWalk.i64_in ((i:Int)+j) (by omega)
   refine b9 _ _ _ _ _ _ _ _ fun g=>?_
   obtain⟨h,hh⟩ : ∃h,h=(i+j) / 2:=⟨_,rfl⟩
   have hhl:h<l.length:=by omega
   have c1:(0:Int)≤(i:Int)+j:=by omega
   have c2:(i:Int)+j≤4294967296:=by omega
   have q1:((i:Int)+j).fdiv (2 ^ min 1 IntKind.u64.bits)=h:=by rw[show(2:Int) ^ min 1 IntKind.u64.bits=2 from rfl,cO];omega
   have e2:=IntWalk.i64_in (h:Int) (by omega)
   have e3:=IntWalk.i64_in ((h:Int)+1) (by omega)
   have hs:=(hok l[h] (List.getElem_mem _)).r
   have h3:=IT l[h].pos q l[h].av hs.2.2.2.2.1 hs.2.1
   have hrd:ee (encS l) h 0 2 true=some (.agg [aI l[h].pos,l[h].av]):=by simp[encS,hhl,Sec.enc]
   have hNh:=hN h hhl
   have ih1:=fun H'=>ih (h+1) j H'
   have ih2:=fun H'=>ih i h H'
   have b1:j - (h+1)≤m:=by omega
   have b2:h - i≤m:=by omega
   have b3:h≤l.length:=by omega
   clear ih hN hok hh
   simp[af,ah,ad,ae,aa, *,aQ,hx.r,hx.idx,Sec.enc,cS]
   by_cases hlt:h<N
   ·have d:(decide ((if h<N then (-1:Int) else if q<l[h].pos then 1 else 0)<0))=true:=by rw[if_pos hlt];rfl
    have e4:((h+1:Nat):Int)=(h:Int)+1:=by omega
    rw[d]
    have h5:=ih1 H b1 (by omega) hj hjl hF hQ
    rw[e4]at h5
    simp[*]
   ·have d:(decide ((if h<N then (-1:Int) else if q<l[h].pos then 1 else 0)<0))=false:=by
     rw[if_neg hlt]
     split<;>rfl
    rw[d]
    have h5:=ih2 H b2 hi (by omega) b3 hF hQ
    simp[*]
  ·exact ih i j H (by omega) hi hj hjl hF hQ
theorem s_bs:limf env 147 [x,aI q,.fn (.func 148) [] []]=some (.tup [aI N,aB (jX l q N)]):=by
 refine aH (fn:=Tryz.f147) (c:=bq) rfl (by kernel_rfl) (by kernel_rfl) (by kernel_rfl) (by kernel_rfl) ?_;refine dE _ _ _ _ _ fun g=>?_
 have h:=QS hx hok hl hN hNl (Q:=fun y H'=>ia env 147 y H' (.tup [aI N,aB (jX l q N)])) l.length 0 l.length [] (by omega) (by omega) hNl (Nat.le_refl _) (by simp(maxDischargeDepth:=12) [aD,ar,Fr.nil,aP,af,ah,ad,ae,aF,aq,aa, *]) (fun y H' e=>by rw[e];simp)
 simp[af,ah,ad,ae,aa, *,ck,hx.r]
 exact h
theorem Nx{st lf:Int}{dd:Bool}:limf env 111 [dsk x st lf dd,aI q]=some (.tup [aI N,aB (jX l q N)]):=by
 refine aH (fn:=Tryz.f111) (c:=vS) rfl (by kernel_rfl) (by kernel_rfl) (by kernel_rfl) (by kernel_rfl) ?_;refine Cr _ _ _ _ fun g=>?_
 have h:=s_bs hx hok hl hN hNl
 simp[af,ah,ad,ae,aa, *,vZ,dsk,hx.r]
end
def ascS(last:Int):List Sec→Bool
 | []=>true
 | s :: l => !decide (s.pos≤last) && !decide (s.pos≥6146)&&decide (s.bs.length=128)&&ascS s.pos l
def dhOk(st lf:Int)(dd:Bool):Bool := !decide (st<0) && !decide (st≥2147483648) && !decide (lf < -1) && !decide (lf≥2147483648) && !(dd && !decide (lf=0))
def dOk(l:List Sec)(st lf:Int)(dd:Bool):Bool:=ascS (-1) l&&dhOk st lf dd
section
variable{l:List Sec}{x:AV}{st lf:Int}{dd:Bool}(hx:Sl 2 (encS l) x)(hok : ∀s∈l,oL s)(hl:l.length<1000000000)
include hx hok hl
theorem HM{r1:Ref}{Q:AV→Heap→Prop} : ∀(s:List Sec)(k:Nat)(i last:Int)(H:Heap),l.drop k=s→k≤l.length→i=k→Fr H→H.get r1=some ⟨4,[dsk x st lf dd],false,false⟩ →
 (∀y H',y=aI (if ascS last s&&dhOk st lf dd then 0 else 8)→Q y H') →
 GoL env Tryz.f45 0 kG [(9,aI i),(3,aI last),(7,x),(1,.ptr r1 0 0),(8,aI l.length)] H Q:=by
 intro s
 induction s with
 | nil =>
  rintro k i last H hs hk rfl hF h1 hQ
  obtain rfl:=drop_nil hs hk
  refine qA _ _ _ _ _ _ _ fun g=>?_
  simp only[dsk]at h1
  simp[af,ah,ad,ae,aa, *,nI,hx.r]
  repeat' ((first | refine td (fun h=>?_) (fun h=>?_) | refine nr (fun h=>?_) (fun h=>?_) | refine nv (fun h=>?_) (fun h=>?_) | refine nn (fun h=>?_) (fun h=>?_) | refine np (fun h=>?_) (fun h=>?_))<;>(try simp only[decide_eq_true_eq,decide_eq_false_iff_not,Bool.not_eq_true',Bool.not_eq_false',Bool.and_eq_true,Bool.or_eq_true]at h)<;>(try simp[af,ah,ad,ae,aa, *]))
  all_goals refine hQ _ _ ?_
  all_goals simp[ascS,dhOk, *]
  all_goals (try omega)
 | cons p s ih =>
  rintro k i last H hs hk rfl hF h1 hQ
  obtain⟨hlt,hg,hs',hg'⟩:=drop_cons hs
  have e3:=IntWalk.i64_in ((k:Int)+1) (by omega)
  have hp:=(hok p (by rw[←hg];exact List.getElem_mem _)).r
  have hrd:ee (encS l) k 0 2 true=some (.agg [aI p.pos,p.av]):=by simp[encS,hg',Sec.enc]
  refine qA _ _ _ _ _ _ _ fun g=>?_
  have ih':=fun H'=>ih (k+1) ((k:Int)+1) p.pos H' hs' (by omega) (by omega)
  clear ih hok
  simp only[dsk]at h1 ih'
  simp[af,ah,ad,ae,aa, *,nI,hx.r,hx.idx]
  repeat' ((first | refine td (fun h=>?_) (fun h=>?_) | refine nr (fun h=>?_) (fun h=>?_) | refine nv (fun h=>?_) (fun h=>?_) | refine nn (fun h=>?_) (fun h=>?_) | refine np (fun h=>?_) (fun h=>?_))<;>(try simp only[decide_eq_true_eq,decide_eq_false_iff_not,Bool.not_eq_true',Bool.not_eq_false',Bool.and_eq_true,Bool.or_eq_true]at h)<;>(try simp[af,ah,ad,ae,aa, *]))
  all_goals first
   | exact hQ _ _ (by simp[ascS, *]<;>omega)
   | refine ih' _ (by simp(maxDischargeDepth:=12) [aD,ar,Fr.nil,aP,af,ah,ad,ae,aF,aq,aa, *]) (by simp[*,af,ah,ad,ae]) fun y H' e=>hQ y H' ?_
  all_goals have hpl:p.bs.length=128:=by omega
  all_goals simp[e,ascS, *]
theorem Ek:limf env 45 [dsk x st lf dd]=some (aI (if dOk l st lf dd then 0 else 8)):=by
 refine aH (fn:=Tryz.f45) (c:=pN) rfl (by kernel_rfl) (by kernel_rfl) (by kernel_rfl) (by kernel_rfl) ?_;refine AM _ _ _ fun g=>?_
 have h:=HM (st:=st) (lf:=lf) (dd:=dd) hx hok hl (r1:=⟨0,1,0,0⟩) (Q:=fun y H'=>ia env 45 y H' (aI (if dOk l st lf dd then 0 else 8))) l 0 0 (-1) [(⟨0,1,0,0⟩,some ⟨4,[dsk x st lf dd],false,false⟩)] rfl (by omega) rfl (by simp(maxDischargeDepth:=12) [aD,ar,Fr.nil,aP,af,ah,ad,ae,aF,aq,aa, *]) (by simp) (fun y H' e=>by rw[e];unfold dOk;split<;>simp)
 simp only[dsk]at h ⊢
 simp[af,ah,ad,ae,aa, *,uJ,hx.r]
 exact h
theorem Ef{q:Int}:limf env 110 [dsk x st lf dd,aI q]=some (aI (if dOk l st lf dd then (if 0≤q∧q<6146 then 0 else 2) else 8)):=by
 refine aH (fn:=Tryz.f110) (c:=uB) rfl (by kernel_rfl) (by kernel_rfl) (by kernel_rfl) (by kernel_rfl) ?_;refine AK _ _ _ _ fun g=>?_
 have h:=Ek (st:=st) (lf:=lf) (dd:=dd) hx hok hl
 simp only[dsk]at h ⊢
 cases hd:dOk l st lf dd<;>simp[hd]at h
 ·simp[af,ah,ad,ae,aa, *,pT,hx.r]
 ·simp[af,ah,ad,ae,aa, *,pT,hx.r]
  repeat' ((first | refine td (fun h=>?_) (fun h=>?_) | refine nr (fun h=>?_) (fun h=>?_) | refine nv (fun h=>?_) (fun h=>?_) | refine nn (fun h=>?_) (fun h=>?_) | refine np (fun h=>?_) (fun h=>?_))<;>(try simp only[decide_eq_true_eq,decide_eq_false_iff_not,Bool.not_eq_true',Bool.not_eq_false',Bool.and_eq_true,Bool.or_eq_true]at h)<;>(try simp[af,ah,ad,ae,aa, *]))
  all_goals omega
end
theorem W7:qBin env.P .eql 22 (.tmp 3) (.const (.slice none 0 0)) (some aNil) (some aNil)=some (aB true,[]):=by kernel_rfl
theorem LN{x:AV}{l:List Sec}(hx:Sl 2 (encS l) x)(hl:l.length<1000000):limf env 78 [x]=some (Gs x):=by
 rcases hx.Tm with ⟨rfl,he⟩ | ⟨c,rfl⟩
 ·refine aH (fn:=Tryz.f78) (c:=bt) rfl (by kernel_rfl) (by kernel_rfl) (by kernel_rfl) (by kernel_rfl) ?_;refine bT _ _ _ fun g=>?_
  simp[af,ah,ad,ae,aa, *,bu,W7]
 ·by_cases hn:l=[]
  ·refine aH (fn:=Tryz.f78) (c:=bt) rfl (by kernel_rfl) (by kernel_rfl) (by kernel_rfl) (by kernel_rfl) ?_;refine bT _ _ _ fun g=>?_
   subst hn
   simp[af,ah,ad,ae,aa, *,bu,encS]
  ·refine aH (fn:=Tryz.f78) (c:=bt) rfl (by kernel_rfl) (by kernel_rfl) (by kernel_rfl) (by kernel_rfl) ?_;refine bT _ _ _ fun g=>?_
   have hne:encS l≠[]:=by simp[encS,hn]
   have hlen:=wT l
   have hb:l.length * 32≤140737488355328:=by omega
   generalize encS l=es at *
   simp[af,ah,ad,ae,aa, *,bu,List.length_pos_iff,DC]
def twS(s:Sec):Sec:=⟨s.pos,s.bs,.isl 1 (by8 s.bs) none⟩
def twL(l:List Sec):List Sec:=l.map twS
@[simp] theorem Ow(l:List Sec):(twL l).length=l.length:=by simp[twL]
theorem Cx(l:List Sec) : ∀s∈twL l,oL s:=by
 intro s hs
 obtain⟨p,_,rfl⟩:=List.mem_map.1 hs
 exact Sl.mk _ _
def half(l:List Sec)(k:Nat):List AV:=encS (twL (l.take k)++l.drop k)
theorem MM(l:List Sec)(k:Nat)(h:k≤l.length):(half l k).length=l.length:=by simp[half];omega
theorem Kc(l:List Sec)(k:Nat)(h:k<l.length):(half l k)[k]?=some l[k].enc:=by
 simp[half,encS,List.getElem?_append,Nat.min_eq_left (Nat.le_of_lt h),h]
theorem ML(l:List Sec)(k:Nat)(h:k<l.length):(half l k).set k (twS l[k]).enc=half l (k+1):=by
 unfold half encS
 rw[←List.map_set]
 congr 1
 have e1:(twL (l.take k)).length=k:=by simp;omega
 have e2:l.drop k=l[k] :: l.drop (k+1):=List.drop_eq_getElem_cons h
 rw[List.set_append_right _ _ (by omega),e1,Nat.sub_self,e2,List.set_cons_zero,List.take_succ_eq_append_getElem h]
 unfold twL
 rw[List.map_append,List.append_assoc]
 rfl
theorem Hz(l:List Sec)(k:Nat)(h:k<l.length):fN (half l k) k 1 [.isl 1 (by8 l[k].bs) none]=some (half l (k+1)):=by
 rw[←ML l k h]
 unfold fN
 rw[Kc l k h]
 rfl
section
variable{l:List Sec}{x:AV}{st lf:Int}{dd:Bool}(hx:Sl 2 (encS l) x)(hok : ∀s∈l,oL s)(h128 : ∀s∈l,s.bs.length=128)(hl:l.length<1000000)
include hx hok h128 hl
theorem Ik{r1 r2 r3:Ref}{c:Option Nat}(n1:r3≠r1)(n2:r3≠r2)(n3:r1≠r2){Q:AV→Heap→Prop} : ∀(m k:Nat)(H:Heap),k+m=l.length→Fr H→H.get r1=some ⟨4,[dsk x st lf dd],false,false⟩→H.get r2=some ⟨4,[dsk aNil 0 0 false],false,false⟩ →
 H.get r3=some ⟨2,half l k,true,false⟩ →
 (∀H',H'.get r3=some ⟨2,encS (twL l),true,false⟩→Q (dsk (.osl r3 0 l.length c) st lf dd) H') →
 GoL env Tryz.f49 0 lB [(10,aI k),(3,.osl r3 0 l.length c),(2,.ptr r2 0 0),(1,.ptr r1 0 0),(9,aI l.length)] H Q:=by
 intro m
 induction m with
 | zero =>
  intro k H hk hF h1 h2 h3 hQ
  obtain rfl:k=l.length:=by omega
  have e:half l l.length=encS (twL l):=by simp[half]
  rw[e]at h3
  refine lh _ _ _ _ _ _ _ fun g=>?_
  simp only[dsk]at h1 h2 hQ
  have n4:r2≠r1:=fun e=>n3 e.symm
  have n5:r1≠r3:=fun e=>n1 e.symm
  have n6:r2≠r3:=fun e=>n2 e.symm
  simp[af,ah,ad,ae,aa, *,jI,Heap.aj]
 | succ m ih =>
  intro k H hk hF h1 h2 h3 hQ
  have hlt:k<l.length:=by omega
  have hp:=hok l[k] (List.getElem_mem _)
  have ho:=OT hp (h128 l[k] (List.getElem_mem _))
  have hpr:=hp.r
  have e3:=IntWalk.i64_in ((k:Int)+1) (by omega)
  have hrd:ee (half l k) k 1 1 false=some l[k].av:=by
   unfold ee
   rw[Kc l k hlt]
   rfl
  have hw:=Hz l k hlt
  have hln:=MM l k (by omega)
  have e4:((k+1:Nat):Int)=(k:Int)+1:=by omega
  have ih':=fun H'=>ih (k+1) H' (by omega)
  rw[e4]at ih'
  clear ih hok h128
  refine lh _ _ _ _ _ _ _ fun g=>?_
  simp only[dsk]at h1 h2 hQ ih'
  have n4:r2≠r1:=fun e=>n3 e.symm
  have n5:r1≠r3:=fun e=>n1 e.symm
  have n6:r2≠r3:=fun e=>n2 e.symm
  simp[af,ah,ad,ae,aa, *,jI]
  exact ih' _ (by simp(maxDischargeDepth:=12) [Heap.aj,aD,ar,Fr.nil,aP,af,ah,ad,ae,aF,aq,aa, *]) (by simp(maxDischargeDepth:=12) [Heap.aj,aD,ar,Fr.nil,aP,af,ah,ad,ae,aF,aq,aa, *]) (by simp(maxDischargeDepth:=12) [Heap.aj,aD,ar,Fr.nil,aP,af,ah,ad,ae,aF,aq,aa, *]) (by simp(maxDischargeDepth:=12) [Heap.aj,aD,ar,Fr.nil,aP,af,ah,ad,ae,aF,aq,aa, *]) hQ
def twA(x:AV)(l:List Sec):AV:=match x with
 | .isl z [] _ => .fsl z [] (some 0)
 | .isl z _ _ => .fsl z (encS (twL l)) none
 | x=>x
theorem xq:limf env 49 [dsk x st lf dd]=some (dsk (twA x l) st lf dd):=by
 refine aH (fn:=Tryz.f49) (c:=rg) rfl (by kernel_rfl) (by kernel_rfl) (by kernel_rfl) (by kernel_rfl) ?_;refine Cs _ _ _ fun g=>?_
 have hC:=LN hx hl
 rcases hx.Tm with ⟨rfl,he⟩ | ⟨c,rfl⟩
 ·have hl0:l=[]:=by simpa [encS] using he
  subst hl0
  simp only[dsk]
  simp[af,ah,ad,ae,aa, *,oh,hx.r,twA]
  refine lh _ _ _ _ _ _ _ fun g=>?_
  simp[af,ah,ad,ae,aa, *,jI]
 ·by_cases hn:l=[]
  ·subst hn
   simp only[dsk]
   simp[encS]at hC
   have e0:encS []=[]:=rfl
   rw[e0]at hx ⊢
   simp[af,ah,ad,ae,aa, *,oh,hx.r,twA]
   refine lh _ _ _ _ _ _ _ fun g=>?_
   simp[af,ah,ad,ae,aa, *,jI]
  ·have hne:encS l≠[]:=by simp[encS,hn]
   rw[DC 2 c hne]at hC
   have e0:half l 0=encS l:=by simp[half,twL]
   have hT:=fun(Q:AV→Heap→Prop) H=>Ik (st:=st) (lf:=lf) (dd:=dd) (x := .isl 2 (encS l) c) (c:=none) hx hok h128 hl (r1:=⟨0,1,0,0⟩) (r2:=⟨0,2,0,0⟩) (r3:=⟨0,7,0,0⟩) (by simp) (by simp) (by simp) (Q:=Q) l.length 0 H (by omega)
   have htw:twA (.isl 2 (encS l) c) l = .fsl 2 (encS (twL l)) none:=by
    cases l with
    | nil=>exact(hn rfl).elim
    | cons _ _=>rfl
   have hfl:(encS (twL l)).length=l.length:=by simp
   simp only[dsk]at hT ⊢
   rw[htw]
   have hlen:=wT l
   generalize hg:encS l=es at *
   simp[af,ah,ad,ae,aa, *,oh,hx.r]
   exact hT _ _ (by simp(maxDischargeDepth:=12) [aD,ar,Fr.nil,aP,af,ah,ad,ae,aF,aq,aa, *]) (by simp) (by simp) (by simp[e0]) fun H' h=>by simp[h,hfl]
end
theorem uR{l:List Sec}{x:AV}(hx:Sl 2 (encS l) x):OutS 2 (encS (twL l)) (twA x l):=by
 rcases hx with ⟨rfl,he⟩ | ⟨c,rfl,_⟩
 ·have:l=[]:=by simpa [encS] using he
  subst this
  exact .inl ⟨rfl,rfl⟩
 ·cases l with
  | nil=>exact .inr (.inr ⟨rfl,rfl⟩)
  | cons p l=>exact .inr (.inl rfl)
def lZ:AV:=dsk aNil 0 0 false
theorem tg : ∀(l:List Sec)(a:Int),ascS a l=true →∀s∈l,s.bs.length=128:=by
 intro l
 induction l with
 | nil=>intro a h s hs;cases hs
 | cons p l ih =>
  intro a h s hs
  simp[ascS]at h
  rcases List.mem_cons.1 hs with rfl | hs
  ·exact h.1.2
  ·exact ih _ h.2 s hs
def vw:AV→AV
 | .fsl z es c => .isl z es c
 | x=>x
section
variable{l:List Sec}{x:AV}{st lf:Int}{dd:Bool}(hx:Sl 2 (encS l) x)(hok : ∀s∈l,oL s)(hl:l.length<1000000)
include hx hok hl
theorem LM(n:Int):limf env 38 [dsk x st lf dd,aI n]=some (
 if dOk l st lf dd then (if n < -1∨2147483648≤n then .tup [lZ,aI 2] else if st+1≥2147483648 then .tup [lZ,aI 9] else .tup [dsk (vw (twA x l)) (st+1) n false,aI 0]) else .tup [lZ,aI 8]):=by
 refine aH (fn:=Tryz.f38) (c:=uC) rfl (by kernel_rfl) (by kernel_rfl) (by kernel_rfl) (by kernel_rfl) ?_;refine AL _ _ _ _ fun g=>?_
 have hC:=Ek (st:=st) (lf:=lf) (dd:=dd) hx hok (by omega)
 cases hd:dOk l st lf dd
 ·simp[hd]at hC
  simp only[dsk,lZ]at hC ⊢
  simp[af,ah,ad,ae,aa, *,kQ,hx.r]
 ·simp[hd]at hC
  have hT:=xq (st:=st) (lf:=lf) (dd:=dd) hx hok (tg l (-1) (by unfold dOk at hd;simp at hd;exact hd.1)) hl
  have ou:=uR hx
  generalize twA x l=y at *
  have hst : -1<st∧st<2147483648:=by
   unfold dOk dhOk at hd
   simp at hd
   omega
  have e1:=IntWalk.i64_in (st+1) (by omega)
  simp only[dsk,lZ]at hC hT ⊢
  clear hok
  by_cases h1:n < -1∨2147483648≤n
  ·simp only[if_pos h1]
   simp[af,ah,ad,ae,aa, *,kQ,hx.r]
   repeat' ((first | refine td (fun h=>?_) (fun h=>?_) | refine nr (fun h=>?_) (fun h=>?_) | refine nv (fun h=>?_) (fun h=>?_) | refine nn (fun h=>?_) (fun h=>?_) | refine np (fun h=>?_) (fun h=>?_))<;>(try simp only[decide_eq_true_eq,decide_eq_false_iff_not,Bool.not_eq_true',Bool.not_eq_false',Bool.and_eq_true,Bool.or_eq_true]at h)<;>(try simp[af,ah,ad,ae,aa, *]))
   all_goals omega
  ·simp only[if_neg h1]
   by_cases h2:st+1≥2147483648
   ·simp only[if_pos h2]
    simp[af,ah,ad,ae,aa, *,kQ,hx.r]
    repeat' ((first | refine td (fun h=>?_) (fun h=>?_) | refine nr (fun h=>?_) (fun h=>?_) | refine nv (fun h=>?_) (fun h=>?_) | refine nn (fun h=>?_) (fun h=>?_) | refine np (fun h=>?_) (fun h=>?_))<;>(try simp only[decide_eq_true_eq,decide_eq_false_iff_not,Bool.not_eq_true',Bool.not_eq_false',Bool.and_eq_true,Bool.or_eq_true]at h)<;>(try simp[af,ah,ad,ae,aa, *]))
    all_goals omega
   ·simp only[if_neg h2]
    have f1 : ¬n < -1:=by omega
    have f2 : ¬2147483648≤n:=by omega
    have f3 : ¬2147483648≤st+1:=by omega
    rcases ou with ⟨rfl,h3⟩ | rfl | ⟨rfl,h3⟩<;>simp[af,ah,ad,ae,aa, *,kQ,hx.r,vw]
    done
end
end Go.Proofs.YtiidajnodhkidaaGreat
