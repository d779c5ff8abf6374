/-
  What is to be shown of each function, computed from its code. No statement of a seat is proved here.
-/
import Derived.Test.YtdbiffjdomokfaaGreatAuTy
import Derived.Test.YtdbiffjdomokfaaGreatMAuSpec
set_option linter.unusedVariables false
set_option linter.unusedSimpArgs false
set_option linter.unusedSectionVars false
set_option linter.unnecessarySimpa false
set_option maxRecDepth 1000000
namespace Go.Proofs.YtdbiffjdomokfaaGreat
open Go.Ab
noncomputable def jw:Code:=(Tryz.f23.body).getD .skip
noncomputable def mM:List Item:=(nU 3 400 [.code jw]).getD []
noncomputable def kL:List Item:=(b7 4 400 [.code jw]).getD []
def wS:Nat→Option (List Nat):=fun i=>cond (Nat.beq i 3) (some [3,0]) (cond (Nat.beq i 4) (some [12,3,10,11]) (none))
def wW:Nat→Bool:=fun i=>cond (Nat.beq i 3) true (false)
def pJ(dep:Nat)(g:Nat→AV)(x3 x0:AV)(H:ab)(Q:AV→ab→Prop):Prop :=
 ak (aJ kF.P false (ab.get H) (⟨(dep+1),11,ab.gen H (dep+1) 11,0⟩:Ref) .len #[31] [x0]) fun v1 =>
  bT kF Tryz.f23 (dep+1) kL [(12,(.v (.int .i64 0))),(3,x3),(10,x0),(11,v1)] H Q
theorem A0(dep:Nat)(x3 x0:AV)(H:ab)(Q:AV→ab→Prop)(h : ∀g,pJ dep g x3 x0 H Q):bT kF Tryz.f23 (dep+1) mM [(3,x3),(0,x0)] H Q:=⟨fun g=>aX (live:=wS) (cut:=(fun i=>cond (Nat.beq i 3) false (wW i))) (n:=500) (Eq.mp (by kernel_rfl) (h g))⟩
def mO(dep:Nat)(g:Nat→AV)(x12 x3 x10 x11:AV)(H:ab)(Q:AV→ab→Prop):Prop :=
 ak (aE kF.P .lss 3 (Operand.tmp 12) (Operand.tmp 11) (some x12) (some x11)) fun v1 =>
 br (some v1) (
 ak (aM kF.P (ab.get H) 31 (some x10) (some x12)) fun v2 =>
 ak (zcr H 56 v2) fun v3 =>
 aO (bm H (⟨(dep+1),5,ab.gen H (dep+1) 5,0⟩:Ref) (bY kF.P (⟨(dep+1),5,ab.gen H (dep+1) 5,0⟩:Ref) 56)) fun v4 H1 =>
 aO (aT kF.P H1 56 (some v4) (some v3)) fun v5 H2 =>
 ak (aa kF.P 56 (some v4) 0) fun v6 =>
 ak (zcr H2 5 v6) fun v7 =>
 ak (aE kF.P .neq 5 (Operand.tmp 17) (.const (.int .u8 3)) (some v7) (some (a8 3))) fun v8 =>
 br (some v8) (
 ak (aa kF.P 56 (some v4) 2) fun v9 =>
 ak (aa kF.P 50 (some v9) 1) fun v10 =>
 ak (zcr H2 40 v10) fun v11 =>
 ak (aa kF.P 56 (some v4) 2) fun v12 =>
 ak (aa kF.P 50 (some v12) 2) fun v13 =>
 ak (zcr H2 3 v13) fun v14 =>
 ak (aa kF.P 56 (some v4) 3) fun v15 =>
 ak (zcr H2 23 v15) fun v16 =>
 ak (cK kF.P 67 (some [(0,v11),(1,v14),(2,v16)])) fun v17 =>
 aO (wF H2 (some x3) (some v17)) fun v18 H3 =>
 ak (zbw 3 12 1 x12) fun v19 =>
  bT kF Tryz.f23 (dep+1) kL [(12,v19),(3,x3),(10,x10),(11,x11)] H3 Q) (
 ak (zbw 3 12 1 x12) fun v9 =>
  bT kF Tryz.f23 (dep+1) kL [(12,v9),(3,x3),(10,x10),(11,x11)] H2 Q)) (
 Q x3 H)
theorem pD(dep:Nat)(x12 x3 x10 x11:AV)(H:ab)(Q:AV→ab→Prop)(h : ∀g,mO dep g x12 x3 x10 x11 H Q):bT kF Tryz.f23 (dep+1) kL [(12,x12),(3,x3),(10,x10),(11,x11)] H Q:=dx fun g=>aX (live:=wS) (cut:=wW) (n:=500) (Eq.mp (by kernel_rfl) (h g))
end Go.Proofs.YtdbiffjdomokfaaGreat
set_option maxRecDepth 100000
namespace Go.Proofs.YtdbiffjdomokfaaGreat
open Go.Ab
theorem yl{e:AV}{o:Option AV}(h:nI e=some o) : ∃(k:UInt8) (x1 x2 x3 x4 x5 x6 x7 x8 x9 x10 x11 x12 x13 x14 x15 x16 x17 x18 x19 x20 x21 x22 x23:AV),
 e = .agg [a8 k,x1,x2,x3,x4,x5,x6,x7,x8,x9,x10,x11,x12,x13,x14,x15,x16,x17,x18,x19,x20,x21,x22,x23]∧flat depth (.agg [x3,x4,x5,x6,x19])=true∧[x1,x2,x3,x4,x5,x6,x7,x8,x9,x10,x11,x12,x13,x14,x15,x16,x17,x18,x19,x20,x21,x22,x23].all AV.one=true∧o=(if k=3 then none else some (.agg [x3,x4,x5,x6,x19])):=by
 unfold nI at h
 split at h
 ·rename_i k x1 x2 x3 x4 x5 x6 x7 x8 x9 x10 x11 x12 x13 x14 x15 x16 x17 x18 x19 x20 x21 x22 x23
  obtain⟨⟨hk,hf,h1⟩,h⟩:=Option.ite_none_right_eq_some.1 h
  cases h
  have hn:(((UInt8.ofNat k.toNat).toNat:Nat):Int)=k:=by
   rw[UInt8.toNat_ofNat'];omega
  refine⟨UInt8.ofNat k.toNat,x1,x2,x3,x4,x5,x6,x7,x8,x9,x10,x11,x12,x13,x14,x15,x16,x17,x18,x19,x20,x21,x22,x23,by unfold a8;rw[hn],hf,h1,?_⟩
  by_cases h3:k=3
  ·subst h3;rfl
  ·rw[if_neg h3,if_neg]
   intro e
   rw[e]at hn
   exact h3 hn.symm
 ·cases h
theorem OT : ∀(x:AV),x.one=true→x.cells=[x]
 | .v u,h=>by cases u<;>first | rfl | (simp[AV.one]at h)
 | .agg _,h=>by simp[AV.one]at h
 | .tup _,h=>by simp[AV.one]at h
 | .cw ..,h=>rfl
 | .cM ..,h=>rfl
 | .fsl ..,h=>by simp[AV.one]at h
 | .ptr ..,h=>rfl
 | .iptr ..,h=>rfl
 | .fn ..,h=>rfl
 | .ifc ..,h=>rfl
 | .yld _,h=>rfl
 | .mp _,h=>rfl
 | .ch _,h=>rfl
 | .lp ..,h=>by simp[AV.one]at h
theorem tK{H:ab}{r:Ref}{n:Nat}{cl:Bool}{buf:List AV}(h:H.get r=some (gG n cl buf)):JW H.get r=some (n,cl,buf):=by
 unfold JW;rw[h];simp[gG]
theorem ME{H:ab}{r:Ref}{n:Nat}{buf:List AV}(h:H.get r=some (gG n false buf))(hlt:buf.length<n){x:AV}(hf:flat depth x=true) :
 wF H (some (.ch r)) (some x)=some (AV.undef,H.put r (some (gG n false (buf++[x])))):=by
 simp only[wF,tK h,if_pos (And.intro hlt hf)]
theorem Ld{es:List AV}{c:Option Nat}(hlen:es.length≤1000){H0:ab}{r:Ref}(hr0:H0.get r=none){Q:AV→ab→Prop} : ∀(s:List AV)(k:Nat)(i:Int)(buf:List AV)(l:List (Option AV)) (H:ab),es.drop k=s→k≤es.length→i=k→Fr H →
 H.get r=some (gG es.length false buf)→buf.length≤k→(∀q b,H0.get q=some b→H.get q=some b)→s.mapM nI=some l →
 (∀H',H'.get r=some (gG es.length false (buf++l.filterMap id))→(∀q b,H0.get q=some b→H'.get q=some b)→Q (.ch r) H') →
 bT kF Tryz.f23 (39+1) kL [(12,aI i),(3,.ch r),(10,.cw 24 es c),(11,aI es.length)] H Q:=by
 intro s
 induction s with
 | nil =>
  rintro k i buf l H hs hk rfl hF hr hb hold hl hQ
  obtain rfl:=drop_nil hs hk
  cases hl
  refine pD _ _ _ _ _ _ _ fun g=>?_
  simp[ah,ai,ae,af,ad, *,mO]
  exact hQ _ (by simpa using hr) hold
 | cons e s ih =>
  rintro k i buf l H hs hk rfl hF hr hb hold hl hQ
  obtain⟨hlt,hg,hs',hg'⟩:=drop_cons hs
  rw[List.mapM_cons]at hl
  cases he:nI e with
  | none=>rw[he]at hl;cases hl
  | some o =>
  rw[he]at hl
  cases hm:s.mapM nI with
  | none=>rw[hm]at hl;cases hl
  | some l' =>
  rw[hm]at hl
  cases hl
  obtain⟨kd,x1,x2,x3,x4,x5,x6,x7,x8,x9,x10,x11,x12,x13,x14,x15,x16,x17,x18,x19,x20,x21,x22,x23,rfl,hfl,hone,rfl⟩:=yl he
  simp only[List.all_cons,List.all_nil,Bool.and_true,Bool.and_eq_true]at hone
  have hnr:((⟨40,5,H.gen 40 5,0⟩:Ref)=r)=False:=ah hF (by rw[hr];rfl) 40 5 0
  have hne:(r=(⟨40,5,H.gen 40 5,0⟩:Ref))=False:=eq_false fun e=>cast hnr e.symm
  refine pD _ _ _ _ _ _ _ fun g=>?_
  have hrd:eL es k 0 24 true=some (.agg [a8 kd,x1,x2,x3,x4,x5,x6,x7,x8,x9,x10,x11,x12,x13,x14,x15,x16,x17,x18,x19,x20,x21,x22,x23]):=by simp[eL,hg']
  clear hg hg' he hs
  simp[ah,ai,ae,af,ad, *,mO,hlt,hrd,hF,hnr,hne,hone,ad]
  refine kO (fun h=>?_) (fun h=>?_)
  ·have h3 : ¬kd=3:=by simpa using h
   simp[hF,hnr,hne,hone,ad,OT x6 hone.2.2.2.2.2.1,OT x19 hone.2.2.2.2.2.2.2.2.2.2.2.2.2.2.2.2.2.2.1]
   refine pH (ME (n:=es.length) (buf:=buf) (by simp[ab.get,hnr,hne,hr]) (by omega) (by simpa using hfl)) ?_
   simp[IntWalk.i64_in ((k:Int)+1) (by omega)]
   refine ih (k+1) _ (buf++[.agg [x3,x4,x5,x6,x19]]) l' _ hs' (by omega) (by simp) ?_ ?_ (by simp;omega) ?_ hm (fun H' h1 h2=>hQ H' (by simpa [h3] using h1) h2)
   ·simp only[hnr,if_false]
    exact aq (aD hF (by rw[hr];rfl) _) (by rw[ad (by rw[hr];rfl)]) _
   ·simp only[hnr,if_false]
    simp[ab.get_put,ab.get,hnr]
   ·intro q b hq
    have h1:=hold q b hq
    have h4:((⟨40,5,H.gen 40 5,0⟩:Ref)=q)=False:=ah hF (by rw[h1];rfl) 40 5 0
    have h5:(q=r)=False:=eq_false fun e=>by subst e;rw[hr0]at hq;cases hq
    simp only[hnr,if_false]
    simp[ab.get_put,ab.get,h4,h5,h1]
  ·have h3:kd=3:=by simpa using h
   simp[IntWalk.i64_in ((k:Int)+1) (by omega)]
   refine ih (k+1) _ buf l' _ hs' (by omega) (by simp) ?_ ?_ (by omega) ?_ hm (fun H' h1 h2=>hQ H' (by simpa [h3] using h1) h2)
   ·exact aq hF rfl _
   ·simp[ab.get,hnr,hr]
   ·intro q b hq
    have h1:=hold q b hq
    have h4:((⟨40,5,H.gen 40 5,0⟩:Ref)=q)=False:=ah hF (by rw[h1];rfl) 40 5 0
    simp[ab.get,h4,h1]
end Go.Proofs.YtdbiffjdomokfaaGreat
namespace Go.Proofs.YtdbiffjdomokfaaGreat
open Go.Ab
noncomputable def pI:Code:=(Tryz.f7.body).getD .skip
noncomputable def gM:List Item:=(b7 5 400 [.code pI]).getD []
def ui:Nat→Option (List Nat):=fun i=>cond (Nat.beq i 5) (some [6,8,22]) (none)
def uo:Nat→Bool:=fun i=>false
def mP(g:Nat→AV)(x0 x1 x2:AV)(H:ab)(Q:AV→ab→Prop):Prop :=
 aO (zac H 3 29 x0) fun v1 H1 =>
 aO (zac H1 5 35 x2) fun v2 H2 =>
 aO (zaj H2 6 22) fun v3 H3 =>
 ak (zab H3 29 v1) fun v4 =>
 ak (zab H3 35 v2) fun v5 =>
 aO (zaa true H3 14 21 [v4,x1,v5]) fun v6 H4 =>
 ak (zbb v6 0) fun v7 =>
 ak (zbb v6 1) fun v8 =>
 ak (zaf 23 17 0 v8) fun v9 =>
 br (some v9) (
 ak (zab H4 22 v3) fun v10 =>
 aO (zam H4 22 v3 v10) fun v11 H5 =>
 ak (zcn H5 v3 22) fun v12 =>
 Q (.tup [v12,v8]) H5) (
 aO (zaa true H4 22 23 [v7]) fun v10 H5 =>
  bT env Tryz.f7 0 gM [(6,v3),(8,v7),(22,v10)] H5 Q)
theorem A1(x0 x1 x2:AV)(H:ab)(Q:AV→ab→Prop)(h : ∀g,mP g x0 x1 x2 H Q):bT env Tryz.f7 0 [.code pI] [(0,x0),(1,x1),(2,x2)] H Q:=⟨fun g=>aX (live:=ui) (cut:=uo) (n:=500) (Eq.mp (by kernel_rfl) (h g))⟩
def zu(g:Nat→AV)(x6 x8 x22:AV)(H:ab)(Q:AV→ab→Prop):Prop :=
 aO (ue env.P H 73 (some x22) true) fun v1 H1 =>
 ak (zbb v1 1) fun v2 =>
 br (some v2) (
 ak (zbb v1 0) fun v3 =>
 aO (zaj H1 9 67) fun v4 H2 =>
 aO (zam H2 67 v4 v3) fun v5 H3 =>
 ak (zad 67 v4 1) fun v6 =>
 ak (zab H3 3 v6) fun v7 =>
 ak (zai 3 32 0 v7) fun v8 =>
 br (some v8) (
 ak (zba H3 22 x6 0) fun v9 =>
 ak (zab H3 3 v9) fun v10 =>
 ak (zae 3 35 1 v10) fun v11 =>
 ak (zba H3 22 x6 0) fun v12 =>
 aO (zam H3 3 v12 v11) fun v13 H4 =>
  bT env Tryz.f7 0 gM [(6,x6),(8,x8),(22,x22)] H4 Q) (
 ak (zad 67 v4 2) fun v9 =>
 ak (zab H3 23 v9) fun v10 =>
 ak (zai 23 40 0 v10) fun v11 =>
 br (some v11) (
 ak (zba H3 22 x6 1) fun v12 =>
 ak (zab H3 3 v12) fun v13 =>
 ak (zae 3 43 1 v13) fun v14 =>
 ak (zba H3 22 x6 1) fun v15 =>
 aO (
  aT env.P H3 3 (some v15) (some v14)) fun v16 H4 =>
  bT env Tryz.f7 0 gM [(6,x6),(8,x8),(22,x22)] H4 Q) (
 ak (zba H3 22 x6 2) fun v12 =>
 ak (zab H3 3 v12) fun v13 =>
 ak (zae 3 27 1 v13) fun v14 =>
 ak (zba H3 22 x6 2) fun v15 =>
 aO (
  aT env.P H3 3 (some v15) (some v14)) fun v16 H4 =>
  bT env Tryz.f7 0 gM [(6,x6),(8,x8),(22,x22)] H4 Q))) (
 ak (zah H1 47 31 x8) fun v3 =>
 ak (zba H1 22 x6 0) fun v4 =>
 ak (zab H1 3 v4) fun v5 =>
 ak (zbh 3 47 49 v3 v5) fun v6 =>
 ak (zba H1 22 x6 1) fun v7 =>
 ak (zab H1 3 v7) fun v8 =>
 ak (zbh 3 50 52 v6 v8) fun v9 =>
 ak (zba H1 22 x6 2) fun v10 =>
 ak (zab H1 3 v10) fun v11 =>
 ak (zbh 3 53 55 v9 v11) fun v12 =>
 ak (zba H1 22 x6 3) fun v13 =>
 aO (zam H1 3 v13 v12) fun v14 H2 =>
 ak (zab H2 22 x6) fun v15 =>
 aO (zam H2 22 x6 v15) fun v16 H3 =>
 ak (zcn H3 x6 22) fun v17 =>
 Q (.tup [v17,(.v (.int .i64 0))]) H3)
theorem qY(x6 x8 x22:AV)(H:ab)(Q:AV→ab→Prop)(h : ∀g,zu g x6 x8 x22 H Q):bT env Tryz.f7 0 gM [(6,x6),(8,x8),(22,x22)] H Q:=dx fun g=>aX (live:=ui) (cut:=uo) (n:=500) (Eq.mp (by kernel_rfl) (h g))
noncomputable def qG:Code:=(Tryz.f10.body).getD .skip
noncomputable def lR:List Item:=(b7 5 400 [.code qG]).getD []
def vi:Nat→Option (List Nat):=fun i=>cond (Nat.beq i 5) (some [6,21]) (none)
def vA:Nat→Bool:=fun i=>false
def ow(g:Nat→AV)(x0 x1 x2:AV)(H:ab)(Q:AV→ab→Prop):Prop :=
 aO (zac H 3 29 x0) fun v1 H1 =>
 aO (zac H1 5 35 x2) fun v2 H2 =>
 ak (zab H2 29 v1) fun v3 =>
 ak (zab H2 35 v2) fun v4 =>
 aO (zaa true H2 14 21 [v3,x1,v4]) fun v5 H3 =>
 ak (zbb v5 0) fun v6 =>
 ak (zbb v5 1) fun v7 =>
 ak (zaf 23 17 0 v7) fun v8 =>
 br (some v8) (
 Q (.tup [(.v (.slice none 0 0)),v7]) H3) (
 aO (zaa true H3 21 23 [v6]) fun v9 H4 =>
  bT env Tryz.f10 0 lR [(6,(.v (.slice none 0 0))),(21,v9)] H4 Q)
theorem BI(x0 x1 x2:AV)(H:ab)(Q:AV→ab→Prop)(h : ∀g,ow g x0 x1 x2 H Q):bT env Tryz.f10 0 [.code qG] [(0,x0),(1,x1),(2,x2)] H Q:=⟨fun g=>aX (live:=vi) (cut:=vA) (n:=500) (Eq.mp (by kernel_rfl) (h g))⟩
def An(g:Nat→AV)(x6 x21:AV)(H:ab)(Q:AV→ab→Prop):Prop :=
 aO (ue env.P H 73 (some x21) true) fun v1 H1 =>
 ak (zbb v1 1) fun v2 =>
 br (some v2) (
 ak (zbb v1 0) fun v3 =>
 aO (zaj H1 9 67) fun v4 H2 =>
 aO (zam H2 67 v4 v3) fun v5 H3 =>
 ak (zab H3 67 v4) fun v6 =>
 aO (zax H3 27 36 1 0 v6) fun v7 H4 =>
 aO (zat H4 28 36 36 x6 v7) fun v8 H5 =>
  bT env Tryz.f10 0 lR [(6,v8),(21,x21)] H5 Q) (
 Q (.tup [x6,(.v (.int .i64 0))]) H1)
theorem sA(x6 x21:AV)(H:ab)(Q:AV→ab→Prop)(h : ∀g,An g x6 x21 H Q):bT env Tryz.f10 0 lR [(6,x6),(21,x21)] H Q:=dx fun g=>aX (live:=vi) (cut:=vA) (n:=500) (Eq.mp (by kernel_rfl) (h g))
noncomputable def jP:Code:=(Tryz.f17.body).getD .skip
noncomputable def fQ:List Item:=(b7 4 400 [.code jP]).getD []
def m6:Nat→Option (List Nat):=fun i=>cond (Nat.beq i 4) (some [5,1,0]) (none)
def na:Nat→Bool:=fun i=>false
def jW(g:Nat→AV)(x0 x1:AV)(H:ab)(Q:AV→ab→Prop):Prop :=
 ak (zah H 7 36 x0) fun v1 =>
 ak (zah H 9 36 x1) fun v2 =>
 ak (zaz 3 7 9 v1 v2) fun v3 =>
 br (some v3) (
 Q (.v (.bool false)) H) (
  bT env Tryz.f17 0 fQ [(5,(.v (.int .i64 0))),(1,x1),(0,x0)] H Q)
theorem sx(x0 x1:AV)(H:ab)(Q:AV→ab→Prop)(h : ∀g,jW g x0 x1 H Q):bT env Tryz.f17 0 [.code jP] [(0,x0),(1,x1)] H Q:=⟨fun g=>aX (live:=m6) (cut:=na) (n:=500) (Eq.mp (by kernel_rfl) (h g))⟩
def iX(g:Nat→AV)(x5 x1 x0:AV)(H:ab)(Q:AV→ab→Prop):Prop :=
 ak (zah H 13 36 x0) fun v1 =>
 ak (zao 3 11 13 x5 v1) fun v2 =>
 br (some v2) (
 ak (zau H 36 x0 x5) fun v3 =>
 ak (zab H 67 v3) fun v4 =>
 ak (zau H 36 x1 x5) fun v5 =>
 ak (zab H 67 v5) fun v6 =>
 ak (zaz 67 20 24 v4 v6) fun v7 =>
 br (some v7) (
 Q (.v (.bool false)) H) (
 ak (zae 3 15 1 x5) fun v8 =>
  bT env Tryz.f17 0 fQ [(5,v8),(1,x1),(0,x0)] H Q)) (
 Q (.v (.bool true)) H)
theorem lY(x5 x1 x0:AV)(H:ab)(Q:AV→ab→Prop)(h : ∀g,iX g x5 x1 x0 H Q):bT env Tryz.f17 0 fQ [(5,x5),(1,x1),(0,x0)] H Q:=dx fun g=>aX (live:=m6) (cut:=na) (n:=500) (Eq.mp (by kernel_rfl) (h g))
end Go.Proofs.YtdbiffjdomokfaaGreat
