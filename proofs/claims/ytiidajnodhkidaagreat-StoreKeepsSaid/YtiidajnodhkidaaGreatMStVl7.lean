/-
  Stores: what a store that is right looks like. No statement of a seat is proved here.
-/
import Derived.Test.YtiidajnodhkidaaGreatMStDays0
import Derived.Test.YtiidajnodhkidaaGreatStTy
set_option linter.unusedVariables false
set_option linter.unusedSimpArgs false
set_option linter.unusedSectionVars false
set_option linter.unnecessarySimpa false
set_option maxRecDepth 100000
namespace Go.Proofs.YtiidajnodhkidaaGreat
open Go.Ab
attribute [local simp] ct bK bO bN keep thr cC bD bP eE eD cN cB aV dk List.take_of_length_le
theorem K6{d:Dk}{p at' nu:Int}{r:Rcd}{k:Nat}(h:gp d p at' nu=some (r,k)):k=recN r∧ej r=true∧1≤k∧at'+k≤2048:=by
 have hle:=qv h
 unfold gp at h
 split at h
 ·cases h
 ·split at h
  ·rename_i h1 h2
   cases hg:getR (gG d p (hdOf (d.rd p)).of.toNat) with
   | none=>rw[hg]at h;cases h
   | some q =>
    rw[hg]at h
    simp only[Option.map_some,Option.some.injEq,Prod.mk.injEq]at h
    obtain⟨h3,h4⟩:=h
    unfold getR at hg
    split at hg
    ·rename_i hc
     cases hg
     simp only[Bool.and_eq_true,wA,decide_eq_true_eq]at hc
     obtain⟨h0,h8,⟨hr,hh⟩,hl⟩:=hc
     have hlen:=fc hr (hdOf ((gG d p (hdOf (d.rd p)).of.toNat).headD [])).st (hdOf ((gG d p (hdOf (d.rd p)).of.toNat).headD [])).nu
     rw[hl,rJ]at hlen
     have e:recN r=recN (fv (catB (gG d p (hdOf (d.rd p)).of.toNat))):=by rw[←h3]
     refine⟨by omega,?_,hle.1,hle.2.2.1⟩
     rw[←h3];exact hr
    ·cases hg
  ·cases h
theorem FL{d:Dk}{p nu most:Int} : ∀(m:Nat)(at':Int)(n:Nat),0≤at'→at'≤2048→2049≤at'+m→(n:Int)≤most →
 chain d p (nu+n+1) at' (fu d p nu most m at' n).1∧(fu d p nu most m at' n).1.all ej=true∧(fu d p nu most m at' n).2=at'+sumN (fu d p nu most m at' n).1∧(fu d p nu most m at' n).2≤2048 ∧
 (gp d (p+(fu d p nu most m at' n).2) (fu d p nu most m at' n).2 (nu+n+(fu d p nu most m at' n).1.length+1)=none∨n+((fu d p nu most m at' n).1.length:Int)=most):=by
 intro m
 induction m with
 | zero=>intro at' n h0 h1 h2 _;omega
 | succ m ih =>
  intro at' n h0 h1 h2 hn
  unfold fu
  by_cases hlt:(n:Int)<most
  ·rw[if_pos hlt]
   cases hw:gp d (p+at') at' (nu+n+1) with
   | none=>exact⟨trivial,rfl,by simp[sumN],h1,.inl (by simpa using hw)⟩
   | some q =>
    obtain⟨r,k⟩:=q
    obtain⟨rfl,hI,hk1,hk2⟩:=K6 hw
    obtain⟨a,b,c,e,f⟩:=ih (at'+recN r) (n+1) (by omega) hk2 (by omega) (by omega)
    refine⟨⟨hw,?_⟩,by simp[hI,b],?_,e,?_⟩
    ·rw[show nu+((n+1:Nat):Int)+1=nu+n+1+1 by omega]at a;exact a
    ·show(fu d p nu most m (at'+recN r) (n+1)).2=_
     rw[c];simp[sumN,Int.add_assoc]
    ·simp only[List.length_cons]
     rcases f with f | f
     ·left
      rw[show nu+(n:Int)+(((fu d p nu most m (at'+recN r) (n+1)).1.length+1:Nat):Int)+1=nu+((n+1:Nat):Int)+((fu d p nu most m (at'+recN r) (n+1)).1.length:Int)+1 by omega]
      exact f
     ·right;omega
  ·rw[if_neg hlt]
   exact⟨trivial,rfl,by simp[sumN],h1,.inr (by simp;omega)⟩
theorem WS : ∀(l:List Sec)(q:Int),rdR l q=zer ∨∃s∈l,s.pos=q∧rdR l q=s.bs:=by
 intro l
 induction l with
 | nil=>intro q;exact .inl rfl
 | cons s l ih =>
  intro q
  unfold rdR
  split
  ·rcases ih q with h | ⟨t,h1,h2,h3⟩
   ·exact .inl h
   ·exact .inr ⟨t,List.mem_cons_of_mem _ h1,h2,h3⟩
  ·split
   ·rename_i h;exact .inr ⟨s,List.mem_cons_self,h,rfl⟩
   ·exact .inl rfl
theorem PZ{d:Dk}(hf:d.Fit){R:List Rcd}{g k at':Int}(h:stOk d R g k at'=true) : ∃L1 L2,Good d L1 L2 g at'∧R=L1++L2∧k=L1.length:=by
 unfold stOk at h
 simp only[Bool.and_eq_true,decide_eq_true_eq]at h
 obtain⟨hE,hR,⟨hg,hk⟩,ha⟩:=h
 have hR:=(xk _ _).1 hR
 unfold ofE at hE
 have hm:d.may=true:=by
  cases hm:d.may with
  | true=>rfl
  | false=>rw[hm,if_neg (by decide)]at hE;exact absurd hE (by decide)
 rw[if_pos hm]at hE
 have hst : ¬d.st<1:=fun h=>by rw[if_pos h]at hE;exact absurd hE (by decide)
 rw[if_neg hst]at hE
 have hln:(d.lst.length:Int)=d.cur.2:=by
  rcases Decidable.em ((d.lst.length:Int)=d.cur.2)with h | h
  ·exact h
  ·rw[if_neg h]at hE;exact absurd hE (by decide)
 rw[if_pos hln]at hE
 have hodd : ¬d.l.any (oddB d (d.cur.2+d.mor.1.length))=true:=fun h=>by rw[if_pos h]at hE;exact absurd hE (by decide)
 have hc:=Aa d
 obtain⟨c1,c2,c3,c4,_⟩:=FL (d:=d) (p:=(1+d.cur.1 % 2) * 2048) (nu:=0) (most:=d.cur.2) 2049 0 0 (by omega) (by omega) (by omega) (by omega)
 obtain⟨m1,m2,m3,m4,m5⟩:=FL (d:=d) (p:=0) (nu:=d.cur.2) (most:=2048) 2049 0 0 (by omega) (by omega) (by omega) (by omega)
 have hL1:(fu d ((1+d.cur.1 % 2) * 2048) 0 d.cur.2 2049 0 0).1=d.lst:=rfl
 have hL2:fu d 0 d.cur.2 2048 2049 0 0=d.mor:=rfl
 rw[hL1]at c1 c2 c3
 rw[hL2]at m1 m2 m3 m4 m5
 have hcl:=uh _ _ _ m1
 have hlen:(d.lst++d.mor.1).length=d.lst.length+d.mor.1.length:=List.length_append
 refine⟨d.lst,d.mor.1,⟨hf,hm,by omega,by omega,⟨by rw[←hg,hln],?_,?_⟩,?_,by omega,by omega,by rw[List.all_append,c2,m2];rfl,?_,fun i hi hh=>?_⟩,by rw[←hR];rfl,by omega⟩
 ·rw[←hg];simpa using c1
 ·omega
 ·rw[hln];simpa using m1
 ·rw[←ha,hlen]
  rcases m5 with m5 | m5
  ·rw[show((d.lst.length+d.mor.1.length:Nat):Int)+1=d.cur.2+((0:Nat):Int)+d.mor.1.length+1 by omega,←Int.zero_add d.mor.2]
   simpa using m5
  ·unfold gp
   rw[if_pos (by omega)]
 ·rcases WS d.l i with h | ⟨s,h1,h2,h3⟩
  ·rw[show d.rd i=zer from h,Gf]at hh
   cases hh
  ·have e:d.rd i=s.bs:=h3
   rw[e]at hh ⊢
   have hno:oddB d (d.cur.2+d.mor.1.length) s=false:=by
    cases ho:oddB d (d.cur.2+d.mor.1.length) s with
    | false=>rfl
    | true=>exact absurd (List.any_eq_true.2 ⟨s,h1,ho⟩) hodd
   unfold oddB Mz at hno
   rw[decide_eq_true (show s.pos<2048 by omega),hh,Bool.true_and,Bool.true_and]at hno
   simp only[Bool.or_eq_false_iff,decide_eq_false_iff_not,Bool.and_eq_false_iff]at hno
   obtain⟨n1,n2,n3⟩:=hno
   refine⟨by omega,by omega,fun hd he=>?_⟩
   rcases n3 with n3 | n3 | n3
   ·omega
   ·omega
   ·rw[hd]at n3;cases n3
end Go.Proofs.YtiidajnodhkidaaGreat
set_option maxRecDepth 1000000
namespace Go.Proofs.YtiidajnodhkidaaGreat
open Go.Ab
noncomputable def fK:Code:=(Tryz.f7.body).getD .skip
noncomputable def dP:List Item:=(cb 9 400 [.code fK]).getD []
def iM:Nat→Option (List Nat):=fun i=>cond (Nat.beq i 9) (some [5,9,2,6,8,1]) (none)
def iP:Nat→Bool:=fun i=>false
def cx(g:Nat→AV)(x0 x1:AV)(H:Heap)(Q:AV→Heap→Prop):Prop :=
 doW (Zd H 2 29 x0) fun v1 H1 =>
 doW (Za true H1 14 14 []) fun v2 H2 =>
 doQ (Zb H2 29 v1) fun v3 =>
 doW (Za true H2 16 24 [v3]) fun v4 H3 =>
 gQ v4 false (ZI x1) fun v5 =>
 gW v4 false H3 (Za true H3 19 37 [v5,(.v (.int .i64 12))]) fun v6 H4 =>
 doQ (Zn v4 v6) fun v7 =>
 gQ v7 false (Zh 29 v1 0) fun v8 =>
 gQ v7 false (Zh 24 v8 2) fun v9 =>
 gQ v7 false (Zb H4 3 v9) fun v10 =>
 gQ v7 false (Zk 3 24 0 v10) fun v11 =>
 doQ (Zn v7 v11) fun v12 =>
 gQ v12 false (ZI v2) fun v13 =>
 gQ v12 false (ZG v13) fun v14 =>
 doQ (Zn v12 v14) fun v15 =>
 br (some v15) (
 Q v2 H4) (
 doQ (Zb H4 29 v1) fun v16 =>
 doW (Za true H4 34 11 [v16]) fun v17 H5 =>
 doQ (Zx v17 0) fun v18 =>
 doQ (Zx v17 1) fun v19 =>
 doW (Zf H5 6 29) fun v20 H6 =>
 doW (Zj H6 29 v20 v18) fun v21 H7 =>
 doQ (Zc 30 37 0 v19) fun v22 =>
 br (some v22) (
 gQ v2 true (Zh 29 v20 1) fun v23 =>
 gQ v2 true (Zb H7 25 v23) fun v24 =>
 gQ v2 true (Ze H7 43 25 v24) fun v25 =>
 gQ v2 true (Zl 3 43 0 v25) fun v26 =>
 doQ (Zi v2 v26) fun v27 =>
 Q v27 H7) (
 doQ (Zb H7 29 v1) fun v23 =>
 doW (Zf H7 8 29) fun v24 H8 =>
 doW (Zj H8 29 v24 v23) fun v25 H9 =>
  GoL env Tryz.f7 0 dP [(5,v2),(9,(.v (.int .i64 0))),(2,v1),(6,v20),(8,v24),(1,x1)] H9 Q))
theorem mf(x0 x1:AV)(H:Heap)(Q:AV→Heap→Prop)(h : ∀g,cx g x0 x1 H Q):GoL env Tryz.f7 0 [.code fK] [(0,x0),(1,x1)] H Q:=⟨fun g=>bn (live:=iM) (cut:=iP) (n:=500) (Eq.mp (by kernel_rfl) (h g))⟩
def dS(g:Nat→AV)(x5 x9 x2 x6 x8 x1:AV)(H:Heap)(Q:AV→Heap→Prop):Prop :=
 doQ (Ze H 49 25 x1) fun v1 =>
 doQ (Zq 3 47 49 x9 v1) fun v2 =>
 br (some v2) (
 doQ (Zb H 29 x6) fun v3 =>
 doQ (Zu H 25 x1 x9) fun v4 =>
 doQ (Zb H 51 v4) fun v5 =>
 doW (Za false H 59 9 [v3,v5]) fun v6 H1 =>
 doQ (Zx v6 0) fun v7 =>
 doQ (Zx v6 1) fun v8 =>
 doW (Zf H1 10 29) fun v9 H2 =>
 doW (Zj H2 29 v9 v7) fun v10 H3 =>
 doQ (Zb H3 29 x8) fun v11 =>
 doQ (Zu H3 25 x1 x9) fun v12 =>
 doQ (Zb H3 51 v12) fun v13 =>
 doW (Za false H3 68 9 [v11,v13]) fun v14 H4 =>
 doQ (Zx v14 0) fun v15 =>
 doQ (Zx v14 1) fun v16 =>
 doW (Zf H4 12 29) fun v17 H5 =>
 doW (Zj H5 29 v17 v15) fun v18 H6 =>
 doQ (Zc 30 71 0 v8) fun v19 =>
 gQ v19 false (ZI v16) fun v20 =>
 gQ v19 false (Zc 30 74 0 v20) fun v21 =>
 doQ (Zn v19 v21) fun v22 =>
 br (some v22) (
 gQ x5 true (ZI v8) fun v23 =>
 gQ x5 true (ZI v16) fun v24 =>
 gQ x5 true (Zo 30 79 80 v23 v24) fun v25 =>
 gQ x5 true (ZI v25) fun v26 =>
 gQ v26 false (ZI v16) fun v27 =>
 gQ v26 false (Zl 30 83 9 v27) fun v28 =>
 gQ x5 true (Zn v26 v28) fun v29 =>
 gQ x5 true (ZI v29) fun v30 =>
 gQ v30 false (ZI v8) fun v31 =>
 gQ v30 false (Zl 30 87 9 v31) fun v32 =>
 gQ x5 true (Zn v30 v32) fun v33 =>
 doQ (Zi x5 v33) fun v34 =>
 Q v34 H6) (
 doQ (Zb H6 29 v9) fun v23 =>
 doQ (Zb H6 29 v17) fun v24 =>
 doW (Zj H6 29 x6 v23) fun v25 H7 =>
 doW (Zj H7 29 x8 v24) fun v26 H8 =>
  od [(v17,x6)] [x6,x8] [] H8 ∧
 (doQ (Zh 29 x6 1) fun v27 =>
 doQ (Zb H8 25 v27) fun v28 =>
 doQ (Zh 29 x8 1) fun v29 =>
 doQ (Zb H8 25 v29) fun v30 =>
 doW (Za true H8 97 21 [v28,v30]) fun v31 H9 =>
 doQ (ZG v31) fun v32 =>
 gQ v32 false (Zh 29 x6 1) fun v33 =>
 gQ v32 false (Zb H9 25 v33) fun v34 =>
 gQ v32 false (Ze H9 102 25 v34) fun v35 =>
 gQ v32 false (Zh 29 x2 1) fun v36 =>
 gQ v32 false (Zb H9 25 v36) fun v37 =>
 gQ v32 false (Ze H9 105 25 v37) fun v38 =>
 gQ v32 false (ZI x9) fun v39 =>
 gQ v32 false (Zs 3 105 106 v38 v39) fun v40 =>
 gQ v32 false (Zg 3 107 1 v40) fun v41 =>
 gQ v32 false (Zz 3 102 108 v35 v41) fun v42 =>
 doQ (Zn v32 v42) fun v43 =>
 br (some v43) (
 Q (.v (.bool false)) H9) (
 doQ (Zg 3 51 1 x9) fun v44 =>
  GoL env Tryz.f7 0 dP [(5,x5),(9,v44),(2,x2),(6,x6),(8,x8),(1,x1)] H9 Q)))) (
 Q x5 H)
theorem gY(x5 x9 x2 x6 x8 x1:AV)(H:Heap)(Q:AV→Heap→Prop)(h : ∀g,dS g x5 x9 x2 x6 x8 x1 H Q):GoL env Tryz.f7 0 dP [(5,x5),(9,x9),(2,x2),(6,x6),(8,x8),(1,x1)] H Q:=cV fun g=>bn (live:=iM) (cut:=iP) (n:=500) (Eq.mp (by kernel_rfl) (h g))
end Go.Proofs.YtiidajnodhkidaaGreat
