/-
  What is to be shown of each function, computed from its code. No statement of a seat is proved here.
-/
import Derived.Test.YtmkmimgokagimaaGreatLeTy
import Derived.Test.YtmkmimgokagimaaGreatLeVc1
import Derived.Test.YtmkmimgokagimaaGreatMLePol
set_option linter.unusedVariables false
set_option linter.unusedSimpArgs false
set_option linter.unusedSectionVars false
set_option linter.unnecessarySimpa false
set_option maxRecDepth 1000000
namespace Go.Proofs.YtmkmimgokagimaaGreat
open Go.Ab
local notation:max "©" b:max h:max n:max f:max a:max=>bo env b (bj env) (bO env 0) h (Ref.mk 0 n (ad.gen h 0 n) 0) (some (AV.fn (Fn.func f) [] [])) a
local notation:max "§" h:max n:max=>Ref.mk 0 n (ad.gen h 0 n) 0
local notation:max "~" a:max=>some a
local notation:max "¥" h:max=>ad.get h
local notation:max "¤" n:max=>(Operand.const (Value.int IntKind.i64 n))
local notation:max "£" n:max=>some (AV.v (Value.int IntKind.i64 n))
local notation:max "¡" => some (AV.v (Value.bool true))
local notation:max "¿" => some (AV.v (Value.bool false))
local notation:max "°" n:max=>(Operand.tmp n)
local notation:max "¢" => env.P
noncomputable def wW:Code:=(Tryz.f82.body).getD .skip
def DK:Nat→Option (List Nat):=fun i=>none
def DY:Nat→Bool:=fun i=>false
def xd(g:Nat→AV)(x0:AV)(H:ad)(Q:AV→ad→Prop):Prop :=
 aL (bg H §H 1 (cd ¢ §H 1 62 ~x0)) fun v1 H1 =>
 ak (aj ¢ ¥H1 62 ~v1) fun v2 =>
 ak (ch ¢ 173 (some [(0,v2)])) fun v3 =>
 aL (©true H1 8 101 [v3]) fun v4 H2 =>
 ak (aE ~v4 0) fun v5 =>
 ak (aE ~v4 1) fun v6 =>
 ak (vk ¢ .not ~v6) fun v7 =>
 br ~v7 (
 Q (.v (.int .i64 8)) H2) (
 Q (.v (.int .i64 0)) H2)
theorem Dv(x0:AV)(H:ad)(Q:AV→ad→Prop)(h : ∀g,xd g x0 H Q):b7 env Tryz.f82 0 [.code wW] [(0,x0)] H Q:=⟨fun g=>bc (live:=DK) (cut:=DY) (n:=500) (Eq.mp (by kernel_rfl) (h g))⟩
noncomputable def sC:Code:=(Tryz.f152.body).getD .skip
def Fq:Nat→Option (List Nat):=fun i=>none
def F4:Nat→Bool:=fun i=>false
def kJ(g:Nat→AV)(x0 x1:AV)(H:ad)(Q:AV→ad→Prop):Prop :=
 aL (bg H §H 2 (cd ¢ §H 2 25 ~x0)) fun v1 H1 =>
 aL (bg H1 §H1 3 (cd ¢ §H1 3 60 ~x1)) fun v2 H2 =>
 aL (bg H2 §H2 4 (bI ¢ §H2 4 25)) fun v3 H3 =>
 ak (aj ¢ ¥H3 25 ~v1) fun v4 =>
 aL (©false H3 11 102 [v4]) fun v5 H4 =>
 ak (aj ¢ ¥H4 60 ~v2) fun v6 =>
 aL (©false H4 13 202 [v6]) fun v7 H5 =>
 ak (aU ¢ true ¥H5 §H5 14 .max #[42,42] [v5,v7]) fun v8 =>
 ak (aH ¢ .neq 42 °15 ¤0 ~v8 £0) fun v9 =>
 br ~v9 (
 ak (ch ¢ 25 (some [])) fun v10 =>
 aL (aQ ¢ H5 25 ~v3 ~v10) fun v11 H6 =>
 ak (bC ¢ H6 v3 25) fun v12 =>
 Q (.tup [v12,v8]) H6) (
 ak (aj ¢ ¥H5 25 ~v1) fun v10 =>
 ak (aj ¢ ¥H5 60 ~v2) fun v11 =>
 aL (©true H5 21 203 [v10,v11]) fun v12 H6 =>
 ak (qm ¢ ~v12 25 true) fun v13 =>
 ak (aE ~v13 0) fun v14 =>
 ak (aE ~v13 1) fun v15 =>
 aL (bg H6 §H6 8 (bI ¢ §H6 8 25)) fun v16 H7 =>
 aL (aQ ¢ H7 25 ~v16 ~v14) fun v17 H8 =>
 br ~v15 (
 ak (aj ¢ ¥H8 25 ~v16) fun v18 =>
 aL (aQ ¢ H8 25 ~v3 ~v18) fun v19 H9 =>
 ak (bC ¢ H9 v3 25) fun v20 =>
 Q (.tup [v20,(.v (.int .i64 0))]) H9) (
 ak (ch ¢ 25 (some [])) fun v18 =>
 ak (qm ¢ ~v12 42 false) fun v19 =>
 aL (aQ ¢ H8 25 ~v3 ~v18) fun v20 H9 =>
 ak (bC ¢ H9 v3 25) fun v21 =>
 Q (.tup [v21,v19]) H9))
theorem xF(x0 x1:AV)(H:ad)(Q:AV→ad→Prop)(h : ∀g,kJ g x0 x1 H Q):b7 env Tryz.f152 0 [.code sC] [(0,x0),(1,x1)] H Q:=⟨fun g=>bc (live:=Fq) (cut:=F4) (n:=500) (Eq.mp (by kernel_rfl) (h g))⟩
noncomputable def yl:Code:=(Tryz.f161.body).getD .skip
def Fc:Nat→Option (List Nat):=fun i=>none
def FQ:Nat→Bool:=fun i=>false
def yD(g:Nat→AV)(x0:AV)(H:ad)(Q:AV→ad→Prop):Prop :=
 aL (bg H §H 1 (cd ¢ §H 1 62 ~x0)) fun v1 H1 =>
 aL (bg H1 §H1 2 (bI ¢ §H1 2 62)) fun v2 H2 =>
 ak (aa ¢ 62 ~v1 2) fun v3 =>
 ak (aj ¢ ¥H2 38 ~v3) fun v4 =>
 aL (©true H2 5 108 [v4]) fun v5 H3 =>
 ak (aa ¢ 62 ~v1 2) fun v6 =>
 aL (aQ ¢ H3 38 ~v6 ~v5) fun v7 H4 =>
 ak (aj ¢ ¥H4 62 ~v1) fun v8 =>
 aL (aQ ¢ H4 62 ~v2 ~v8) fun v9 H5 =>
 ak (bC ¢ H5 v2 62) fun v10 =>
 Q v10 H5
theorem Ev(x0:AV)(H:ad)(Q:AV→ad→Prop)(h : ∀g,yD g x0 H Q):b7 env Tryz.f161 0 [.code yl] [(0,x0)] H Q:=⟨fun g=>bc (live:=Fc) (cut:=FQ) (n:=500) (Eq.mp (by kernel_rfl) (h g))⟩
noncomputable def BZ:Code:=(Tryz.f164.body).getD .skip
def II:Nat→Option (List Nat):=fun i=>none
def I4:Nat→Bool:=fun i=>false
def wQ(g:Nat→AV)(x0:AV)(H:ad)(Q:AV→ad→Prop):Prop :=
 aL (bg H §H 1 (cd ¢ §H 1 60 ~x0)) fun v1 H1 =>
 ak (aj ¢ ¥H1 60 ~v1) fun v2 =>
 aL (©true H1 9 202 [v2]) fun v3 H2 =>
 ak (aH ¢ .neq 42 °10 ¤0 ~v3 £0) fun v4 =>
 br ~v4 (
 Q (.tup [(.v (.slice none 0 0)),v3]) H2) (
 ak (aa ¢ 60 ~v1 1) fun v5 =>
 ak (aa ¢ 58 ~v5 1) fun v6 =>
 ak (aj ¢ ¥H2 4 ~v6) fun v7 =>
 br ~v7 (
 ak (aa ¢ 60 ~v1 1) fun v8 =>
 ak (aa ¢ 58 ~v8 0) fun v9 =>
 ak (aj ¢ ¥H2 29 ~v9) fun v10 =>
 ak (ch ¢ 31 (some [(0,v10)])) fun v11 =>
 aL (©true H2 21 162 [v11]) fun v12 H3 =>
 ak (aE ~v12 0) fun v13 =>
 ak (aE ~v12 1) fun v14 =>
 ak (aa ¢ 60 ~v1 0) fun v15 =>
 ak (aj ¢ ¥H3 3 ~v15) fun v16 =>
 ak (cZ ¢ ¥H3 §H3 26 3 5 ~v16) fun v17 =>
 aL (fu ¢ true false H3 §H3 28 170 2 (some [(0,v17),(1,(a8 1))])) fun v18 H4 =>
 ak (aU ¢ false ¥H4 §H4 31 .len #[170] [v13]) fun v19 =>
 ak (aH ¢ .sub 3 °31 ¤1 ~v19 £1) fun v20 =>
 ak (eU ¢ ¥H4 170 ~v13 (some none) (oi v20) (some none)) fun v21 =>
 aL (de ¢ true H4 §H4 34 (some 170) (some 170) v18 v21) fun v22 H5 =>
 Q (.tup [v22,v14]) H5) (
 ak (aa ¢ 60 ~v1 1) fun v8 =>
 ak (aa ¢ 58 ~v8 0) fun v9 =>
 ak (aj ¢ ¥H2 29 ~v9) fun v10 =>
 ak (ch ¢ 31 (some [(0,v10)])) fun v11 =>
 aL (©true H2 21 162 [v11]) fun v12 H3 =>
 ak (aE ~v12 0) fun v13 =>
 ak (aE ~v12 1) fun v14 =>
 ak (aa ¢ 60 ~v1 0) fun v15 =>
 ak (aj ¢ ¥H3 3 ~v15) fun v16 =>
 ak (cZ ¢ ¥H3 §H3 26 3 5 ~v16) fun v17 =>
 aL (fu ¢ true false H3 §H3 28 170 2 (some [(0,v17),(1,(a8 0))])) fun v18 H4 =>
 ak (aU ¢ false ¥H4 §H4 31 .len #[170] [v13]) fun v19 =>
 ak (aH ¢ .sub 3 °31 ¤1 ~v19 £1) fun v20 =>
 ak (eU ¢ ¥H4 170 ~v13 (some none) (oi v20) (some none)) fun v21 =>
 aL (de ¢ true H4 §H4 34 (some 170) (some 170) v18 v21) fun v22 H5 =>
 Q (.tup [v22,v14]) H5))
theorem Ij(x0:AV)(H:ad)(Q:AV→ad→Prop)(h : ∀g,wQ g x0 H Q):b7 env Tryz.f164 0 [.code BZ] [(0,x0)] H Q:=⟨fun g=>bc (live:=II) (cut:=I4) (n:=500) (Eq.mp (by kernel_rfl) (h g))⟩
noncomputable def ym:Code:=(Tryz.f165.body).getD .skip
def Fe:Nat→Option (List Nat):=fun i=>none
def FR:Nat→Bool:=fun i=>false
def kG(g:Nat→AV)(x0 x1:AV)(H:ad)(Q:AV→ad→Prop):Prop :=
 aL (bg H §H 2 (cd ¢ §H 2 62 ~x0)) fun v1 H1 =>
 aL (bg H1 §H1 3 (cd ¢ §H1 3 62 ~x1)) fun v2 H2 =>
 ak (aa ¢ 62 ~v1 0) fun v3 =>
 ak (aj ¢ ¥H2 5 ~v3) fun v4 =>
 ak (aa ¢ 62 ~v2 0) fun v5 =>
 ak (aj ¢ ¥H2 5 ~v5) fun v6 =>
 ak (aH ¢ .eql 5 °6 °8 ~v4 ~v6) fun v7 =>
 gQ v7 true (aa ¢ 62 ~v1 1) fun v8 =>
 gQ v7 true (aj ¢ ¥H2 3 ~v8) fun v9 =>
 gQ v7 true (aa ¢ 62 ~v2 1) fun v10 =>
 gQ v7 true (aj ¢ ¥H2 3 ~v10) fun v11 =>
 gQ v7 true (aH ¢ .eql 3 °12 °14 ~v9 ~v11) fun v12 =>
 ak (bp ~v7 ~v12 ¿) fun v13 =>
 gQ v13 true (aa ¢ 62 ~v1 2) fun v14 =>
 gQ v13 true (aj ¢ ¥H2 38 ~v14) fun v15 =>
 gQ v13 true (aa ¢ 62 ~v2 2) fun v16 =>
 gQ v13 true (aj ¢ ¥H2 38 ~v16) fun v17 =>
 gW v13 true H2 (©true H2 22 211 [v15,v17]) fun v18 H3 =>
 ak (bp ~v13 ~v18 ¿) fun v19 =>
 gQ v19 true (aa ¢ 62 ~v1 3) fun v20 =>
 gQ v19 true (aj ¢ ¥H3 42 ~v20) fun v21 =>
 gQ v19 true (aa ¢ 62 ~v2 3) fun v22 =>
 gQ v19 true (aj ¢ ¥H3 42 ~v22) fun v23 =>
 gQ v19 true (aH ¢ .eql 42 °26 °28 ~v21 ~v23) fun v24 =>
 ak (bp ~v19 ~v24 ¿) fun v25 =>
 gQ v25 true (aa ¢ 62 ~v1 4) fun v26 =>
 gQ v25 true (aj ¢ ¥H3 60 ~v26) fun v27 =>
 gQ v25 true (aa ¢ 62 ~v2 4) fun v28 =>
 gQ v25 true (aj ¢ ¥H3 60 ~v28) fun v29 =>
 gQ v25 true (aH ¢ .eql 60 °33 °35 ~v27 ~v29) fun v30 =>
 ak (bp ~v25 ~v30 ¿) fun v31 =>
 Q v31 H3
theorem Ew(x0 x1:AV)(H:ad)(Q:AV→ad→Prop)(h : ∀g,kG g x0 x1 H Q):b7 env Tryz.f165 0 [.code ym] [(0,x0),(1,x1)] H Q:=⟨fun g=>bc (live:=Fe) (cut:=FR) (n:=500) (Eq.mp (by kernel_rfl) (h g))⟩
noncomputable def yA:Code:=(Tryz.f202.body).getD .skip
def Fp:Nat→Option (List Nat):=fun i=>none
def F3:Nat→Bool:=fun i=>false
def sL(g:Nat→AV)(x0:AV)(H:ad)(Q:AV→ad→Prop):Prop :=
 aL (bg H §H 1 (cd ¢ §H 1 60 ~x0)) fun v1 H1 =>
 ak (aa ¢ 60 ~v1 1) fun v2 =>
 ak (aa ¢ 58 ~v2 1) fun v3 =>
 ak (aj ¢ ¥H1 4 ~v3) fun v4 =>
 gQ v4 false (aa ¢ 60 ~v1 1) fun v5 =>
 gQ v4 false (aa ¢ 58 ~v5 0) fun v6 =>
 gQ v4 false (aj ¢ ¥H1 29 ~v6) fun v7 =>
 gW v4 false H1 (©false H1 11 185 []) fun v8 H2 =>
 gQ v4 false (aH ¢ .eql 29 °10 °11 ~v7 ~v8) fun v9 =>
 ak (bp ~v4 ¡ ~v9) fun v10 =>
 ak (aa ¢ 60 ~v1 0) fun v11 =>
 ak (aj ¢ ¥H2 3 ~v11) fun v12 =>
 ak (aH ¢ .lss 3 °15 ¤0 ~v12 £0) fun v13 =>
 gQ v13 false (aa ¢ 60 ~v1 0) fun v14 =>
 gQ v13 false (aj ¢ ¥H2 3 ~v14) fun v15 =>
 gQ v13 false (aH ¢ .geq 3 °19 ¤8 ~v15 £8) fun v16 =>
 ak (bp ~v13 ¡ ~v16) fun v17 =>
 gQ v17 false (aa ¢ 60 ~v1 1) fun v18 =>
 gQ v17 false (aa ¢ 58 ~v18 0) fun v19 =>
 gQ v17 false (aj ¢ ¥H2 29 ~v19) fun v20 =>
 gW v17 false H2 (©true H2 26 76 [v20]) fun v21 H3 =>
 gQ v17 false (aH ¢ .neq 42 °26 ¤0 ~v21 £0) fun v22 =>
 ak (bp ~v17 ¡ ~v22) fun v23 =>
 gQ v23 false (cz ~v10) fun v24 =>
 gQ v23 false (vk ¢ .not ~v24) fun v25 =>
 ak (bp ~v23 ¡ ~v25) fun v26 =>
 br ~v26 (
 Q (.v (.int .i64 8)) H3) (
 Q (.v (.int .i64 0)) H3)
theorem ED(x0:AV)(H:ad)(Q:AV→ad→Prop)(h : ∀g,sL g x0 H Q):b7 env Tryz.f202 0 [.code yA] [(0,x0)] H Q:=⟨fun g=>bc (live:=Fp) (cut:=F3) (n:=500) (Eq.mp (by kernel_rfl) (h g))⟩
noncomputable def kD:Code:=(Tryz.f203.body).getD .skip
def Fo:Nat→Option (List Nat):=fun i=>none
def F2:Nat→Bool:=fun i=>false
def kI(g:Nat→AV)(x0 x1:AV)(H:ad)(Q:AV→ad→Prop):Prop :=
 aL (bg H §H 2 (cd ¢ §H 2 25 ~x0)) fun v1 H1 =>
 aL (bg H1 §H1 3 (cd ¢ §H1 3 60 ~x1)) fun v2 H2 =>
 ak (aa ¢ 60 ~v2 0) fun v3 =>
 ak (aj ¢ ¥H2 3 ~v3) fun v4 =>
 ak (aa ¢ 25 ~v1 0) fun v5 =>
 ak (aj ¢ ¥H2 22 ~v5) fun v6 =>
 ak (aU ¢ false ¥H2 §H2 10 .len #[22] [v6]) fun v7 =>
 ak (aH ¢ .geq 3 °7 °10 ~v4 ~v7) fun v8 =>
 br ~v8 (
 ak (pU ¢ 42 £2) fun v9 =>
 Q v9 H2) (
 ak (aa ¢ 25 ~v1 2) fun v9 =>
 ak (aj ¢ ¥H2 3 ~v9) fun v10 =>
 ak (aH ¢ .eql 3 °15 ¤0 ~v10 £0) fun v11 =>
 br ~v11 (
 ak (pU ¢ 42 £9) fun v12 =>
 Q v12 H2) (
 ak (aj ¢ ¥H2 25 ~v1) fun v12 =>
 aL (©true H2 19 160 [v12]) fun v13 H3 =>
 aL (aQ ¢ H3 25 ~v1 ~v13) fun v14 H4 =>
 ak (aa ¢ 25 ~v1 0) fun v15 =>
 ak (aj ¢ ¥H4 22 ~v15) fun v16 =>
 ak (aa ¢ 60 ~v2 0) fun v17 =>
 ak (aj ¢ ¥H4 3 ~v17) fun v18 =>
 ak (aa ¢ 60 ~v2 1) fun v19 =>
 ak (aj ¢ ¥H4 58 ~v19) fun v20 =>
 ak (bq ¢ ¥H4 22 ~v16 ~v18) fun v21 =>
 aL (aQ ¢ H4 58 ~v21 ~v20) fun v22 H5 =>
 ak (aa ¢ 25 ~v1 2) fun v23 =>
 ak (aj ¢ ¥H5 3 ~v23) fun v24 =>
 ak (aH ¢ .sub 3 °28 ¤1 ~v24 £1) fun v25 =>
 ak (aa ¢ 25 ~v1 2) fun v26 =>
 aL (aQ ¢ H5 3 ~v26 ~v25) fun v27 H6 =>
 ak (aj ¢ ¥H6 25 ~v1) fun v28 =>
 ak (pU ¢ 25 ~v28) fun v29 =>
 Q v29 H6))
theorem mh(x0 x1:AV)(H:ad)(Q:AV→ad→Prop)(h : ∀g,kI g x0 x1 H Q):b7 env Tryz.f203 0 [.code kD] [(0,x0),(1,x1)] H Q:=⟨fun g=>bc (live:=Fo) (cut:=F2) (n:=500) (Eq.mp (by kernel_rfl) (h g))⟩
end Go.Proofs.YtmkmimgokagimaaGreat
set_option maxRecDepth 100000
namespace Go.Proofs.YtmkmimgokagimaaGreat
open Go.Ab
attribute [local simp] bJ bw bt bG bF cL kN bX bx bD cR cQ cr bY bh ct List.take_of_length_le
@[simp] theorem JL(a:UInt8)(b:UInt32):bj env 76 [.agg [a8 a,aF b]]=some (aI (bad (decide (a≤15)))):=by
 refine aG (fn:=Tryz.f76) (c:=sj) rfl (by kernel_rfl) (by kernel_rfl) (by kernel_rfl) (by kernel_rfl) ?_;refine xE _ _ _ fun g=>?_
 simp[ah,ai,ae,af,ab, *,sJ]
 repeat' ((first | refine mZ (fun h=>?_) (fun h=>?_) | refine lz (fun h=>?_) (fun h=>?_) | refine lA (fun h=>?_) (fun h=>?_) | refine lx (fun h=>?_) (fun h=>?_) | refine ly (fun h=>?_) (fun h=>?_))<;>(try simp only[decide_eq_true_eq,decide_eq_false_iff_not,Bool.not_eq_true',Bool.not_eq_false',Bool.and_eq_true,Bool.or_eq_true]at h)<;>(try simp[ah,ai,ae,af,ab, *]))
 all_goals (try grind [bad])
@[simp] theorem acB(b:Bool):bj env 159 [aB b]=some (aI (bad b)):=by
 refine aG (fn:=Tryz.f159) (c:=BX) rfl (by kernel_rfl) (by kernel_rfl) (by kernel_rfl) (by kernel_rfl) ?_;refine Ih _ _ _ fun g=>?_
 cases b<;>simp[ah,ai,ae,af,ab, *,B2,bad]
@[simp] theorem uL(a:UInt8)(b:UInt32)(n:UInt8):bj env 91 [.agg [a8 a,aF b,a8 n]]=some (aI (bad (fL ⟨a,b,n⟩))):=by
 refine aG (fn:=Tryz.f91) (c:=sn) rfl (by kernel_rfl) (by kernel_rfl) (by kernel_rfl) (by kernel_rfl) ?_;refine zY _ _ _ fun g=>?_
 simp[ah,ai,ae,af,ab, *,sK,fL]
 repeat' ((first | refine mZ (fun h=>?_) (fun h=>?_) | refine lz (fun h=>?_) (fun h=>?_) | refine lA (fun h=>?_) (fun h=>?_) | refine lx (fun h=>?_) (fun h=>?_) | refine ly (fun h=>?_) (fun h=>?_))<;>(try simp only[decide_eq_true_eq,decide_eq_false_iff_not,Bool.not_eq_true',Bool.not_eq_false',Bool.and_eq_true,Bool.or_eq_true]at h)<;>(try simp[ah,ai,ae,af,ab, *]))
@[simp] theorem aao(a:UInt8)(b:UInt32)(n:UInt8)(k:Int):bj env 182 [.agg [a8 a,aF b,a8 n,aI k]]=some (aI (bad (G0 ⟨⟨a,b,n⟩,k⟩))):=by
 refine aG (fn:=Tryz.f182) (c:=BY) rfl (by kernel_rfl) (by kernel_rfl) (by kernel_rfl) (by kernel_rfl) ?_;refine Ii _ _ _ fun g=>?_
 simp[ah,ai,ae,af,ab, *,B3,G0]
 repeat' ((first | refine mZ (fun h=>?_) (fun h=>?_) | refine lz (fun h=>?_) (fun h=>?_) | refine lA (fun h=>?_) (fun h=>?_) | refine lx (fun h=>?_) (fun h=>?_) | refine ly (fun h=>?_) (fun h=>?_))<;>(try simp only[decide_eq_true_eq,decide_eq_false_iff_not,Bool.not_eq_true',Bool.not_eq_false',Bool.and_eq_true,Bool.or_eq_true]at h)<;>(try simp[ah,ai,ae,af,ab, *]))
@[simp] theorem UE(a:UInt8)(b:UInt32)(n:UInt8)(k m:Int):bj env 135 [.agg [a8 a,aF b,a8 n,aI k,aI m]]=some (aI (bad (jz ⟨⟨⟨a,b,n⟩,k⟩,m⟩))):=by
 refine aG (fn:=Tryz.f135) (c:=vS) rfl (by kernel_rfl) (by kernel_rfl) (by kernel_rfl) (by kernel_rfl) ?_;refine Ck _ _ _ fun g=>?_
 cases hb:G0 ⟨⟨a,b,n⟩,k⟩ with
 | false=>simp[ah,ai,ae,af,ab, *,kH,jz]
 | true =>
  have hn:=KG hb
  simp only at hn
  by_cases h1:1≤m
  ·by_cases h2:m≤64
   ·have w1:=IntWalk.i64_in (k+m) (by omega)
    have w2:=IntWalk.i64_in (k+m - 1) (by omega)
    simp[ah,ai,ae,af,ab, *,kH,jz]
   ·simp[ah,ai,ae,af,ab, *,kH,jz]
  ·simp[ah,ai,ae,af,ab, *,kH,jz]
@[simp] theorem adV(a:UInt8)(b:UInt32)(n:UInt8)(k m:Int):bj env 239 [.agg [a8 a,aF b,a8 n,aI k],aI m]=some (.agg [a8 a,aF b,a8 n,aI (IntKind.i64.wrap (k+m))]):=by
 refine aG (fn:=Tryz.f239) (c:=Dq) rfl (by kernel_rfl) (by kernel_rfl) (by kernel_rfl) (by kernel_rfl) ?_;refine Ju _ _ _ _ fun g=>?_
 simp[ah,ai,ae,af,ab, *,Du]
def So(s:CZ)(m:Int):Int:=if jz s then (if m<0∨s.many≤m then 2 else 0) else 8
@[simp] theorem aap(a:UInt8)(b:UInt32)(n:UInt8)(k m j:Int):bj env 228 [.agg [a8 a,aF b,a8 n,aI k,aI m],aI j] =
 some (if So ⟨⟨⟨a,b,n⟩,k⟩,m⟩ j=0 then .tup [.agg [a8 a,aF b,a8 n,aI (k+j)],aI 0] else .tup [.agg [a8 0,aF 0,a8 0,aI 0],aI (So ⟨⟨⟨a,b,n⟩,k⟩,m⟩ j)]):=by
 refine aG (fn:=Tryz.f228) (c:=HU) rfl (by kernel_rfl) (by kernel_rfl) (by kernel_rfl) (by kernel_rfl) ?_;refine NT _ _ _ _ fun g=>?_
 cases hb:jz ⟨⟨⟨a,b,n⟩,k⟩,m⟩ with
 | false=>simp[ah,ai,ae,af,ab, *,wa,So]
 | true =>
  have hn:=kV hb
  simp only at hn
  by_cases h1:j<0
  ·simp[ah,ai,ae,af,ab, *,wa,So]
  ·by_cases h2:m≤j
   ·simp[ah,ai,ae,af,ab, *,wa,So]
   ·have w1:=IntWalk.i64_in (k+j) (by omega)
    simp[ah,ai,ae,af,ab, *,wa,So]
end Go.Proofs.YtmkmimgokagimaaGreat
namespace Go.Proofs.YtmkmimgokagimaaGreat
open Go.Ab
attribute [local simp] bJ bw bt bG bF cL kN bX bx bD cR cQ cr bY bh ct List.take_of_length_le
@[simp] theorem X0(n:Int)(h0:0≤n):bj env 207 [aI n,aI 4]=some (.ck 1 (iB (be 4 n)) none):=by
 refine aG (fn:=Tryz.f207) (c:=qo) rfl (by kernel_rfl) (by kernel_rfl) (by kernel_rfl) (by kernel_rfl) ?_;refine zn _ _ _ _ fun g=>?_
 have w5:IntKind.i64.wrap (-1) = -1:=rfl
 have w4:IntKind.i64.wrap 0=0:=rfl
 simp[ah,ai,ae,af,ab, *,uV]
 refine dk _ _ _ _ _ fun g=>?_
 simp[ah,ai,ae,af,ab, *,cU,fB,eX]
 refine dk _ _ _ _ _ fun g=>?_
 simp[ah,ai,ae,af,ab, *,cU,fB,eX]
 refine dk _ _ _ _ _ fun g=>?_
 simp[ah,ai,ae,af,ab, *,cU,fB,eX]
 refine dk _ _ _ _ _ fun g=>?_
 simp[ah,ai,ae,af,ab, *,cU,fB,eX]
 refine dk _ _ _ _ _ fun g=>?_
 simp[ah,ai,ae,af,ab, *,cU,MQ,iB]
@[simp] theorem N9(n:Int)(h0:0≤n):bj env 207 [aI n,aI 7]=some (.ck 1 (iB (be 7 n)) none):=by
 refine aG (fn:=Tryz.f207) (c:=qo) rfl (by kernel_rfl) (by kernel_rfl) (by kernel_rfl) (by kernel_rfl) ?_;refine zn _ _ _ _ fun g=>?_
 have w5:IntKind.i64.wrap (-1) = -1:=rfl
 have w4:IntKind.i64.wrap 0=0:=rfl
 simp[ah,ai,ae,af,ab, *,uV]
 refine dk _ _ _ _ _ fun g=>?_
 simp[ah,ai,ae,af,ab, *,cU,fB,eX]
 refine dk _ _ _ _ _ fun g=>?_
 simp[ah,ai,ae,af,ab, *,cU,fB,eX]
 refine dk _ _ _ _ _ fun g=>?_
 simp[ah,ai,ae,af,ab, *,cU,fB,eX]
 refine dk _ _ _ _ _ fun g=>?_
 simp[ah,ai,ae,af,ab, *,cU,fB,eX]
 refine dk _ _ _ _ _ fun g=>?_
 simp[ah,ai,ae,af,ab, *,cU,fB,eX]
 refine dk _ _ _ _ _ fun g=>?_
 simp[ah,ai,ae,af,ab, *,cU,fB,eX]
 refine dk _ _ _ _ _ fun g=>?_
 simp[ah,ai,ae,af,ab, *,cU,fB,eX]
 refine dk _ _ _ _ _ fun g=>?_
 simp[ah,ai,ae,af,ab, *,cU,ael,iB]
def il(h:nY):List UInt8:=h.lv :: (be 4 h.cats.toNat++[h.num])
@[simp] theorem WS(h:nY):(il h).length=6:=by simp[il]
@[simp] theorem JK(a:UInt8)(b:UInt32)(n:UInt8):bj env 162 [.agg [a8 a,aF b,a8 n]]=some (if fL ⟨a,b,n⟩ then .tup [.fsl 1 (iB (il ⟨a,b,n⟩)) none,aI 0] else .tup [cp,aI 8]):=by
 refine aG (fn:=Tryz.f162) (c:=vR) rfl (by kernel_rfl) (by kernel_rfl) (by kernel_rfl) (by kernel_rfl) ?_;refine Cj _ _ _ fun g=>?_
 cases h:fL ⟨a,b,n⟩ with
 | true=>simp[ah,ai,ae,af,ab, *,qj,bad,iB,il]
 | false=>simp[ah,ai,ae,af,ab, *,qj,bad]
def iU(i:eJ):List UInt8:=il i.h++be 7 i.n
@[simp] theorem WO(i:eJ):(iU i).length=13:=by simp[iU]
@[simp] theorem adZ(a:UInt8)(b:UInt32)(n:UInt8)(k:Int):bj env 208 [.agg [a8 a,aF b,a8 n,aI k]]=some (if G0 ⟨⟨a,b,n⟩,k⟩ then .tup [.ck 1 (iB (iU ⟨⟨a,b,n⟩,k⟩)) none,aI 0] else .tup [cp,aI 8]):=by
 refine aG (fn:=Tryz.f208) (c:=F9) rfl (by kernel_rfl) (by kernel_rfl) (by kernel_rfl) (by kernel_rfl) ?_;refine Lz _ _ _ fun g=>?_
 cases h:G0 ⟨⟨a,b,n⟩,k⟩ with
 | true =>
  have hn:=KG h
  have h7:=N9 k (by simp only at hn;omega)
  have hh:fL ⟨a,b,n⟩=true:=by simp only[G0,Bool.and_eq_true]at h;exact h.1
  simp only at hn
  simp[ah,ai,ae,af,ab, *,Ap,bad,iB,iU]
 | false=>simp[ah,ai,ae,af,ab, *,Ap,bad]
end Go.Proofs.YtmkmimgokagimaaGreat
