/-
  What is to be shown of each function, computed from its code. No statement of a seat is proved here.
-/
import Derived.Test.YtmkmimgokagimaaGreatLeTy
import Derived.Test.YtmkmimgokagimaaGreatLeVc1
import Derived.Test.YtmkmimgokagimaaGreatMLePol
set_option linter.unusedVariables false
set_option linter.unusedSimpArgs false
set_option linter.unusedSectionVars false
set_option linter.unnecessarySimpa false
set_option maxRecDepth 1000000
namespace Go.Proofs.YtmkmimgokagimaaGreat
open Go.Ab
noncomputable def wW:Code:=(Tryz.f82.body).getD .skip
def DK:Nat→Option (List Nat):=fun i=>none
def DY:Nat→Bool:=fun i=>false
def xd(g:Nat→AV)(x0:AV)(H:ad)(Q:AV→ad→Prop):Prop :=
 aL (zac H 1 62 x0) fun v1 H1 =>
 ak (zab H1 62 v1) fun v2 =>
 ak (zcp 173 0 v2) fun v3 =>
 aL (zaa true H1 8 101 [v3]) fun v4 H2 =>
 ak (zaw v4 0) fun v5 =>
 ak (zaw v4 1) fun v6 =>
 ak (zbb v6) fun v7 =>
 br (some v7) (
 Q (.v (.int .i64 8)) H2) (
 Q (.v (.int .i64 0)) H2)
theorem Dv(x0:AV)(H:ad)(Q:AV→ad→Prop)(h : ∀g,xd g x0 H Q):b7 env Tryz.f82 0 [.code wW] [(0,x0)] H Q:=⟨fun g=>bc (live:=DK) (cut:=DY) (n:=500) (Eq.mp (by kernel_rfl) (h g))⟩
noncomputable def sC:Code:=(Tryz.f152.body).getD .skip
def Fq:Nat→Option (List Nat):=fun i=>none
def F4:Nat→Bool:=fun i=>false
def kJ(g:Nat→AV)(x0 x1:AV)(H:ad)(Q:AV→ad→Prop):Prop :=
 aL (zac H 2 25 x0) fun v1 H1 =>
 aL (zac H1 3 60 x1) fun v2 H2 =>
 aL (zah H2 4 25) fun v3 H3 =>
 ak (zab H3 25 v1) fun v4 =>
 aL (zaa false H3 11 102 [v4]) fun v5 H4 =>
 ak (zab H4 60 v2) fun v6 =>
 aL (zaa false H4 13 202 [v6]) fun v7 H5 =>
 ak (zcj H5 14 42 42 v5 v7) fun v8 =>
 ak (zae 42 15 0 v8) fun v9 =>
 br (some v9) (
 ak (zbp 25) fun v10 =>
 aL (zal H5 25 v3 v10) fun v11 H6 =>
 ak (zbt H6 v3 25) fun v12 =>
 Q (.tup [v12,v8]) H6) (
 ak (zab H5 25 v1) fun v10 =>
 ak (zab H5 60 v2) fun v11 =>
 aL (zaa true H5 21 203 [v10,v11]) fun v12 H6 =>
 ak (qm env.P (some v12) 25 true) fun v13 =>
 ak (zaw v13 0) fun v14 =>
 ak (zaw v13 1) fun v15 =>
 aL (zah H6 8 25) fun v16 H7 =>
 aL (zal H7 25 v16 v14) fun v17 H8 =>
 br (some v15) (
 ak (zab H8 25 v16) fun v18 =>
 aL (zal H8 25 v3 v18) fun v19 H9 =>
 ak (zbt H9 v3 25) fun v20 =>
 Q (.tup [v20,(.v (.int .i64 0))]) H9) (
 ak (zbp 25) fun v18 =>
 ak (qm env.P (some v12) 42 false) fun v19 =>
 aL (zal H8 25 v3 v18) fun v20 H9 =>
 ak (zbt H9 v3 25) fun v21 =>
 Q (.tup [v21,v19]) H9))
theorem xF(x0 x1:AV)(H:ad)(Q:AV→ad→Prop)(h : ∀g,kJ g x0 x1 H Q):b7 env Tryz.f152 0 [.code sC] [(0,x0),(1,x1)] H Q:=⟨fun g=>bc (live:=Fq) (cut:=F4) (n:=500) (Eq.mp (by kernel_rfl) (h g))⟩
noncomputable def yl:Code:=(Tryz.f161.body).getD .skip
def Fc:Nat→Option (List Nat):=fun i=>none
def FQ:Nat→Bool:=fun i=>false
def yD(g:Nat→AV)(x0:AV)(H:ad)(Q:AV→ad→Prop):Prop :=
 aL (zac H 1 62 x0) fun v1 H1 =>
 aL (zah H1 2 62) fun v2 H2 =>
 ak (zad 62 v1 2) fun v3 =>
 ak (zab H2 38 v3) fun v4 =>
 aL (zaa true H2 5 108 [v4]) fun v5 H3 =>
 ak (zad 62 v1 2) fun v6 =>
 aL (zal H3 38 v6 v5) fun v7 H4 =>
 ak (zab H4 62 v1) fun v8 =>
 aL (zal H4 62 v2 v8) fun v9 H5 =>
 ak (zbt H5 v2 62) fun v10 =>
 Q v10 H5
theorem Ev(x0:AV)(H:ad)(Q:AV→ad→Prop)(h : ∀g,yD g x0 H Q):b7 env Tryz.f161 0 [.code yl] [(0,x0)] H Q:=⟨fun g=>bc (live:=Fc) (cut:=FQ) (n:=500) (Eq.mp (by kernel_rfl) (h g))⟩
noncomputable def BZ:Code:=(Tryz.f164.body).getD .skip
def II:Nat→Option (List Nat):=fun i=>none
def I4:Nat→Bool:=fun i=>false
def wQ(g:Nat→AV)(x0:AV)(H:ad)(Q:AV→ad→Prop):Prop :=
 aL (zac H 1 60 x0) fun v1 H1 =>
 ak (zab H1 60 v1) fun v2 =>
 aL (zaa true H1 9 202 [v2]) fun v3 H2 =>
 ak (zae 42 10 0 v3) fun v4 =>
 br (some v4) (
 Q (.tup [(.v (.slice none 0 0)),v3]) H2) (
 ak (zad 60 v1 1) fun v5 =>
 ak (zad 58 v5 1) fun v6 =>
 ak (zab H2 4 v6) fun v7 =>
 br (some v7) (
 ak (zad 60 v1 1) fun v8 =>
 ak (zad 58 v8 0) fun v9 =>
 ak (zab H2 29 v9) fun v10 =>
 ak (zcp 31 0 v10) fun v11 =>
 aL (zaa true H2 21 162 [v11]) fun v12 H3 =>
 ak (zaw v12 0) fun v13 =>
 ak (zaw v12 1) fun v14 =>
 ak (zad 60 v1 0) fun v15 =>
 ak (zab H3 3 v15) fun v16 =>
 ak (zay H3 26 3 5 v16) fun v17 =>
 aL (fu env.P true false H3 (Ref.mk 0 28 (ad.gen H3 0 28) 0) 170 2 (some [(0,v17),(1,(a8 1))])) fun v18 H4 =>
 ak (zai H4 31 170 v13) fun v19 =>
 ak (zax 3 31 1 v19) fun v20 =>
 ak (zbh H4 170 v13 v20) fun v21 =>
 aL (zat H4 34 170 170 v18 v21) fun v22 H5 =>
 Q (.tup [v22,v14]) H5) (
 ak (zad 60 v1 1) fun v8 =>
 ak (zad 58 v8 0) fun v9 =>
 ak (zab H2 29 v9) fun v10 =>
 ak (zcp 31 0 v10) fun v11 =>
 aL (zaa true H2 21 162 [v11]) fun v12 H3 =>
 ak (zaw v12 0) fun v13 =>
 ak (zaw v12 1) fun v14 =>
 ak (zad 60 v1 0) fun v15 =>
 ak (zab H3 3 v15) fun v16 =>
 ak (zay H3 26 3 5 v16) fun v17 =>
 aL (fu env.P true false H3 (Ref.mk 0 28 (ad.gen H3 0 28) 0) 170 2 (some [(0,v17),(1,(a8 0))])) fun v18 H4 =>
 ak (zai H4 31 170 v13) fun v19 =>
 ak (zax 3 31 1 v19) fun v20 =>
 ak (zbh H4 170 v13 v20) fun v21 =>
 aL (zat H4 34 170 170 v18 v21) fun v22 H5 =>
 Q (.tup [v22,v14]) H5))
theorem Ij(x0:AV)(H:ad)(Q:AV→ad→Prop)(h : ∀g,wQ g x0 H Q):b7 env Tryz.f164 0 [.code BZ] [(0,x0)] H Q:=⟨fun g=>bc (live:=II) (cut:=I4) (n:=500) (Eq.mp (by kernel_rfl) (h g))⟩
noncomputable def ym:Code:=(Tryz.f165.body).getD .skip
def Fe:Nat→Option (List Nat):=fun i=>none
def FR:Nat→Bool:=fun i=>false
def kG(g:Nat→AV)(x0 x1:AV)(H:ad)(Q:AV→ad→Prop):Prop :=
 aL (zac H 2 62 x0) fun v1 H1 =>
 aL (zac H1 3 62 x1) fun v2 H2 =>
 ak (zad 62 v1 0) fun v3 =>
 ak (zab H2 5 v3) fun v4 =>
 ak (zad 62 v2 0) fun v5 =>
 ak (zab H2 5 v5) fun v6 =>
 ak (zan 5 6 8 v4 v6) fun v7 =>
 gQ v7 true (zad 62 v1 1) fun v8 =>
 gQ v7 true (zab H2 3 v8) fun v9 =>
 gQ v7 true (zad 62 v2 1) fun v10 =>
 gQ v7 true (zab H2 3 v10) fun v11 =>
 gQ v7 true (zan 3 12 14 v9 v11) fun v12 =>
 ak (zag v7 v12) fun v13 =>
 gQ v13 true (zad 62 v1 2) fun v14 =>
 gQ v13 true (zab H2 38 v14) fun v15 =>
 gQ v13 true (zad 62 v2 2) fun v16 =>
 gQ v13 true (zab H2 38 v16) fun v17 =>
 gW v13 true H2 (zaa true H2 22 211 [v15,v17]) fun v18 H3 =>
 ak (zag v13 v18) fun v19 =>
 gQ v19 true (zad 62 v1 3) fun v20 =>
 gQ v19 true (zab H3 42 v20) fun v21 =>
 gQ v19 true (zad 62 v2 3) fun v22 =>
 gQ v19 true (zab H3 42 v22) fun v23 =>
 gQ v19 true (zan 42 26 28 v21 v23) fun v24 =>
 ak (zag v19 v24) fun v25 =>
 gQ v25 true (zad 62 v1 4) fun v26 =>
 gQ v25 true (zab H3 60 v26) fun v27 =>
 gQ v25 true (zad 62 v2 4) fun v28 =>
 gQ v25 true (zab H3 60 v28) fun v29 =>
 gQ v25 true (zan 60 33 35 v27 v29) fun v30 =>
 ak (zag v25 v30) fun v31 =>
 Q v31 H3
theorem Ew(x0 x1:AV)(H:ad)(Q:AV→ad→Prop)(h : ∀g,kG g x0 x1 H Q):b7 env Tryz.f165 0 [.code ym] [(0,x0),(1,x1)] H Q:=⟨fun g=>bc (live:=Fe) (cut:=FR) (n:=500) (Eq.mp (by kernel_rfl) (h g))⟩
noncomputable def yA:Code:=(Tryz.f202.body).getD .skip
def Fp:Nat→Option (List Nat):=fun i=>none
def F3:Nat→Bool:=fun i=>false
def sL(g:Nat→AV)(x0:AV)(H:ad)(Q:AV→ad→Prop):Prop :=
 aL (zac H 1 60 x0) fun v1 H1 =>
 ak (zad 60 v1 1) fun v2 =>
 ak (zad 58 v2 1) fun v3 =>
 ak (zab H1 4 v3) fun v4 =>
 gQ v4 false (zad 60 v1 1) fun v5 =>
 gQ v4 false (zad 58 v5 0) fun v6 =>
 gQ v4 false (zab H1 29 v6) fun v7 =>
 gW v4 false H1 (zaa false H1 11 185 []) fun v8 H2 =>
 gQ v4 false (zan 29 10 11 v7 v8) fun v9 =>
 ak (zam v4 v9) fun v10 =>
 ak (zad 60 v1 0) fun v11 =>
 ak (zab H2 3 v11) fun v12 =>
 ak (zas 3 15 0 v12) fun v13 =>
 gQ v13 false (zad 60 v1 0) fun v14 =>
 gQ v13 false (zab H2 3 v14) fun v15 =>
 gQ v13 false (zaq 3 19 8 v15) fun v16 =>
 ak (zam v13 v16) fun v17 =>
 gQ v17 false (zad 60 v1 1) fun v18 =>
 gQ v17 false (zad 58 v18 0) fun v19 =>
 gQ v17 false (zab H2 29 v19) fun v20 =>
 gW v17 false H2 (zaa true H2 26 76 [v20]) fun v21 H3 =>
 gQ v17 false (zae 42 26 0 v21) fun v22 =>
 ak (zam v17 v22) fun v23 =>
 gQ v23 false (zbj v10) fun v24 =>
 gQ v23 false (zbb v24) fun v25 =>
 ak (zam v23 v25) fun v26 =>
 br (some v26) (
 Q (.v (.int .i64 8)) H3) (
 Q (.v (.int .i64 0)) H3)
theorem ED(x0:AV)(H:ad)(Q:AV→ad→Prop)(h : ∀g,sL g x0 H Q):b7 env Tryz.f202 0 [.code yA] [(0,x0)] H Q:=⟨fun g=>bc (live:=Fp) (cut:=F3) (n:=500) (Eq.mp (by kernel_rfl) (h g))⟩
noncomputable def kD:Code:=(Tryz.f203.body).getD .skip
def Fo:Nat→Option (List Nat):=fun i=>none
def F2:Nat→Bool:=fun i=>false
def kI(g:Nat→AV)(x0 x1:AV)(H:ad)(Q:AV→ad→Prop):Prop :=
 aL (zac H 2 25 x0) fun v1 H1 =>
 aL (zac H1 3 60 x1) fun v2 H2 =>
 ak (zad 60 v2 0) fun v3 =>
 ak (zab H2 3 v3) fun v4 =>
 ak (zad 25 v1 0) fun v5 =>
 ak (zab H2 22 v5) fun v6 =>
 ak (zai H2 10 22 v6) fun v7 =>
 ak (zbm 3 7 10 v4 v7) fun v8 =>
 br (some v8) (
 ak (pU env.P 42 (some (AV.v (Value.int IntKind.i64 2)))) fun v9 =>
 Q v9 H2) (
 ak (zad 25 v1 2) fun v9 =>
 ak (zab H2 3 v9) fun v10 =>
 ak (zak 3 15 0 v10) fun v11 =>
 br (some v11) (
 ak (pU env.P 42 (some (AV.v (Value.int IntKind.i64 9)))) fun v12 =>
 Q v12 H2) (
 ak (zab H2 25 v1) fun v12 =>
 aL (zaa true H2 19 160 [v12]) fun v13 H3 =>
 aL (zal H3 25 v1 v13) fun v14 H4 =>
 ak (zad 25 v1 0) fun v15 =>
 ak (zab H4 22 v15) fun v16 =>
 ak (zad 60 v2 0) fun v17 =>
 ak (zab H4 3 v17) fun v18 =>
 ak (zad 60 v2 1) fun v19 =>
 ak (zab H4 58 v19) fun v20 =>
 ak (zau H4 22 v16 v18) fun v21 =>
 aL (zal H4 58 v21 v20) fun v22 H5 =>
 ak (zad 25 v1 2) fun v23 =>
 ak (zab H5 3 v23) fun v24 =>
 ak (zax 3 28 1 v24) fun v25 =>
 ak (zad 25 v1 2) fun v26 =>
 aL (zal H5 3 v26 v25) fun v27 H6 =>
 ak (zab H6 25 v1) fun v28 =>
 ak (pU env.P 25 (some v28)) fun v29 =>
 Q v29 H6))
theorem mh(x0 x1:AV)(H:ad)(Q:AV→ad→Prop)(h : ∀g,kI g x0 x1 H Q):b7 env Tryz.f203 0 [.code kD] [(0,x0),(1,x1)] H Q:=⟨fun g=>bc (live:=Fo) (cut:=F2) (n:=500) (Eq.mp (by kernel_rfl) (h g))⟩
end Go.Proofs.YtmkmimgokagimaaGreat
set_option maxRecDepth 100000
namespace Go.Proofs.YtmkmimgokagimaaGreat
open Go.Ab
attribute [local simp] bJ bw bt bG bF cL kN bX bx bD cR cQ cr bY bh ct List.take_of_length_le
@[simp] theorem JL(a:UInt8)(b:UInt32):bj env 76 [.agg [a8 a,aF b]]=some (aI (bad (decide (a≤15)))):=by
 refine aG (fn:=Tryz.f76) (c:=sj) rfl (by kernel_rfl) (by kernel_rfl) (by kernel_rfl) (by kernel_rfl) ?_;refine xE _ _ _ fun g=>?_
 simp[ah,ai,ae,af,ab, *,sJ]
 repeat' ((first | refine mZ (fun h=>?_) (fun h=>?_) | refine lz (fun h=>?_) (fun h=>?_) | refine lA (fun h=>?_) (fun h=>?_) | refine lx (fun h=>?_) (fun h=>?_) | refine ly (fun h=>?_) (fun h=>?_))<;>(try simp only[decide_eq_true_eq,decide_eq_false_iff_not,Bool.not_eq_true',Bool.not_eq_false',Bool.and_eq_true,Bool.or_eq_true]at h)<;>(try simp[ah,ai,ae,af,ab, *]))
 all_goals (try grind [bad])
@[simp] theorem acB(b:Bool):bj env 159 [aB b]=some (aI (bad b)):=by
 refine aG (fn:=Tryz.f159) (c:=BX) rfl (by kernel_rfl) (by kernel_rfl) (by kernel_rfl) (by kernel_rfl) ?_;refine Ih _ _ _ fun g=>?_
 cases b<;>simp[ah,ai,ae,af,ab, *,B2,bad]
@[simp] theorem uL(a:UInt8)(b:UInt32)(n:UInt8):bj env 91 [.agg [a8 a,aF b,a8 n]]=some (aI (bad (fL ⟨a,b,n⟩))):=by
 refine aG (fn:=Tryz.f91) (c:=sn) rfl (by kernel_rfl) (by kernel_rfl) (by kernel_rfl) (by kernel_rfl) ?_;refine zY _ _ _ fun g=>?_
 simp[ah,ai,ae,af,ab, *,sK,fL]
 repeat' ((first | refine mZ (fun h=>?_) (fun h=>?_) | refine lz (fun h=>?_) (fun h=>?_) | refine lA (fun h=>?_) (fun h=>?_) | refine lx (fun h=>?_) (fun h=>?_) | refine ly (fun h=>?_) (fun h=>?_))<;>(try simp only[decide_eq_true_eq,decide_eq_false_iff_not,Bool.not_eq_true',Bool.not_eq_false',Bool.and_eq_true,Bool.or_eq_true]at h)<;>(try simp[ah,ai,ae,af,ab, *]))
@[simp] theorem aao(a:UInt8)(b:UInt32)(n:UInt8)(k:Int):bj env 182 [.agg [a8 a,aF b,a8 n,aI k]]=some (aI (bad (G0 ⟨⟨a,b,n⟩,k⟩))):=by
 refine aG (fn:=Tryz.f182) (c:=BY) rfl (by kernel_rfl) (by kernel_rfl) (by kernel_rfl) (by kernel_rfl) ?_;refine Ii _ _ _ fun g=>?_
 simp[ah,ai,ae,af,ab, *,B3,G0]
 repeat' ((first | refine mZ (fun h=>?_) (fun h=>?_) | refine lz (fun h=>?_) (fun h=>?_) | refine lA (fun h=>?_) (fun h=>?_) | refine lx (fun h=>?_) (fun h=>?_) | refine ly (fun h=>?_) (fun h=>?_))<;>(try simp only[decide_eq_true_eq,decide_eq_false_iff_not,Bool.not_eq_true',Bool.not_eq_false',Bool.and_eq_true,Bool.or_eq_true]at h)<;>(try simp[ah,ai,ae,af,ab, *]))
@[simp] theorem UE(a:UInt8)(b:UInt32)(n:UInt8)(k m:Int):bj env 135 [.agg [a8 a,aF b,a8 n,aI k,aI m]]=some (aI (bad (jz ⟨⟨⟨a,b,n⟩,k⟩,m⟩))):=by
 refine aG (fn:=Tryz.f135) (c:=vS) rfl (by kernel_rfl) (by kernel_rfl) (by kernel_rfl) (by kernel_rfl) ?_;refine Ck _ _ _ fun g=>?_
 cases hb:G0 ⟨⟨a,b,n⟩,k⟩ with
 | false=>simp[ah,ai,ae,af,ab, *,kH,jz]
 | true =>
  have hn:=KG hb
  simp only at hn
  by_cases h1:1≤m
  ·by_cases h2:m≤64
   ·have w1:=IntWalk.i64_in (k+m) (by omega)
    have w2:=IntWalk.i64_in (k+m - 1) (by omega)
    simp[ah,ai,ae,af,ab, *,kH,jz]
   ·simp[ah,ai,ae,af,ab, *,kH,jz]
  ·simp[ah,ai,ae,af,ab, *,kH,jz]
@[simp] theorem adV(a:UInt8)(b:UInt32)(n:UInt8)(k m:Int):bj env 239 [.agg [a8 a,aF b,a8 n,aI k],aI m]=some (.agg [a8 a,aF b,a8 n,aI (IntKind.i64.wrap (k+m))]):=by
 refine aG (fn:=Tryz.f239) (c:=Dq) rfl (by kernel_rfl) (by kernel_rfl) (by kernel_rfl) (by kernel_rfl) ?_;refine Ju _ _ _ _ fun g=>?_
 simp[ah,ai,ae,af,ab, *,Du]
def So(s:CZ)(m:Int):Int:=if jz s then (if m<0∨s.many≤m then 2 else 0) else 8
@[simp] theorem aap(a:UInt8)(b:UInt32)(n:UInt8)(k m j:Int):bj env 228 [.agg [a8 a,aF b,a8 n,aI k,aI m],aI j] =
 some (if So ⟨⟨⟨a,b,n⟩,k⟩,m⟩ j=0 then .tup [.agg [a8 a,aF b,a8 n,aI (k+j)],aI 0] else .tup [.agg [a8 0,aF 0,a8 0,aI 0],aI (So ⟨⟨⟨a,b,n⟩,k⟩,m⟩ j)]):=by
 refine aG (fn:=Tryz.f228) (c:=HU) rfl (by kernel_rfl) (by kernel_rfl) (by kernel_rfl) (by kernel_rfl) ?_;refine NT _ _ _ _ fun g=>?_
 cases hb:jz ⟨⟨⟨a,b,n⟩,k⟩,m⟩ with
 | false=>simp[ah,ai,ae,af,ab, *,wa,So]
 | true =>
  have hn:=kV hb
  simp only at hn
  by_cases h1:j<0
  ·simp[ah,ai,ae,af,ab, *,wa,So]
  ·by_cases h2:m≤j
   ·simp[ah,ai,ae,af,ab, *,wa,So]
   ·have w1:=IntWalk.i64_in (k+j) (by omega)
    simp[ah,ai,ae,af,ab, *,wa,So]
end Go.Proofs.YtmkmimgokagimaaGreat
namespace Go.Proofs.YtmkmimgokagimaaGreat
open Go.Ab
attribute [local simp] bJ bw bt bG bF cL kN bX bx bD cR cQ cr bY bh ct List.take_of_length_le
@[simp] theorem X0(n:Int)(h0:0≤n):bj env 207 [aI n,aI 4]=some (.ck 1 (iB (be 4 n)) none):=by
 refine aG (fn:=Tryz.f207) (c:=qo) rfl (by kernel_rfl) (by kernel_rfl) (by kernel_rfl) (by kernel_rfl) ?_;refine zn _ _ _ _ fun g=>?_
 have w5:IntKind.i64.wrap (-1) = -1:=rfl
 have w4:IntKind.i64.wrap 0=0:=rfl
 simp[ah,ai,ae,af,ab, *,uV]
 refine dk _ _ _ _ _ fun g=>?_
 simp[ah,ai,ae,af,ab, *,cU,fB,eX]
 refine dk _ _ _ _ _ fun g=>?_
 simp[ah,ai,ae,af,ab, *,cU,fB,eX]
 refine dk _ _ _ _ _ fun g=>?_
 simp[ah,ai,ae,af,ab, *,cU,fB,eX]
 refine dk _ _ _ _ _ fun g=>?_
 simp[ah,ai,ae,af,ab, *,cU,fB,eX]
 refine dk _ _ _ _ _ fun g=>?_
 simp[ah,ai,ae,af,ab, *,cU,MQ,iB]
@[simp] theorem N9(n:Int)(h0:0≤n):bj env 207 [aI n,aI 7]=some (.ck 1 (iB (be 7 n)) none):=by
 refine aG (fn:=Tryz.f207) (c:=qo) rfl (by kernel_rfl) (by kernel_rfl) (by kernel_rfl) (by kernel_rfl) ?_;refine zn _ _ _ _ fun g=>?_
 have w5:IntKind.i64.wrap (-1) = -1:=rfl
 have w4:IntKind.i64.wrap 0=0:=rfl
 simp[ah,ai,ae,af,ab, *,uV]
 refine dk _ _ _ _ _ fun g=>?_
 simp[ah,ai,ae,af,ab, *,cU,fB,eX]
 refine dk _ _ _ _ _ fun g=>?_
 simp[ah,ai,ae,af,ab, *,cU,fB,eX]
 refine dk _ _ _ _ _ fun g=>?_
 simp[ah,ai,ae,af,ab, *,cU,fB,eX]
 refine dk _ _ _ _ _ fun g=>?_
 simp[ah,ai,ae,af,ab, *,cU,fB,eX]
 refine dk _ _ _ _ _ fun g=>?_
 simp[ah,ai,ae,af,ab, *,cU,fB,eX]
 refine dk _ _ _ _ _ fun g=>?_
 simp[ah,ai,ae,af,ab, *,cU,fB,eX]
 refine dk _ _ _ _ _ fun g=>?_
 simp[ah,ai,ae,af,ab, *,cU,fB,eX]
 refine dk _ _ _ _ _ fun g=>?_
 simp[ah,ai,ae,af,ab, *,cU,ael,iB]
def il(h:nY):List UInt8:=h.lv :: (be 4 h.cats.toNat++[h.num])
@[simp] theorem WS(h:nY):(il h).length=6:=by simp[il]
@[simp] theorem JK(a:UInt8)(b:UInt32)(n:UInt8):bj env 162 [.agg [a8 a,aF b,a8 n]]=some (if fL ⟨a,b,n⟩ then .tup [.fsl 1 (iB (il ⟨a,b,n⟩)) none,aI 0] else .tup [cp,aI 8]):=by
 refine aG (fn:=Tryz.f162) (c:=vR) rfl (by kernel_rfl) (by kernel_rfl) (by kernel_rfl) (by kernel_rfl) ?_;refine Cj _ _ _ fun g=>?_
 cases h:fL ⟨a,b,n⟩ with
 | true=>simp[ah,ai,ae,af,ab, *,qj,bad,iB,il]
 | false=>simp[ah,ai,ae,af,ab, *,qj,bad]
def iU(i:eJ):List UInt8:=il i.h++be 7 i.n
@[simp] theorem WO(i:eJ):(iU i).length=13:=by simp[iU]
@[simp] theorem adZ(a:UInt8)(b:UInt32)(n:UInt8)(k:Int):bj env 208 [.agg [a8 a,aF b,a8 n,aI k]]=some (if G0 ⟨⟨a,b,n⟩,k⟩ then .tup [.ck 1 (iB (iU ⟨⟨a,b,n⟩,k⟩)) none,aI 0] else .tup [cp,aI 8]):=by
 refine aG (fn:=Tryz.f208) (c:=F9) rfl (by kernel_rfl) (by kernel_rfl) (by kernel_rfl) (by kernel_rfl) ?_;refine Lz _ _ _ fun g=>?_
 cases h:G0 ⟨⟨a,b,n⟩,k⟩ with
 | true =>
  have hn:=KG h
  have h7:=N9 k (by simp only at hn;omega)
  have hh:fL ⟨a,b,n⟩=true:=by simp only[G0,Bool.and_eq_true]at h;exact h.1
  simp only at hn
  simp[ah,ai,ae,af,ab, *,Ap,bad,iB,iU]
 | false=>simp[ah,ai,ae,af,ab, *,Ap,bad]
end Go.Proofs.YtmkmimgokagimaaGreat
